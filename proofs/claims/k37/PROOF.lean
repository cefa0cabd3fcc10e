import PyProof.Rows.All
import Wide.All
import OpenK.AllK
import Wide.FinOn
import HandS.ForMost
import HandS.ForExc
import HandS.Deep
import HandS.CallSlots
import HandS.Lambda
import KE.KNest
import HandS.TupAny
import HandS.Wide
import HandS.IsInst
import HandS.Walk
import HandS.Zip
import HandS.Text
import KE.GoesEnum
import HandS.More
import HandS.EndTab
import HandS.Style
import HandS.SetFor
import KE.SortData
import KE.KDictZip
import PyProof.ListNew
import KE.KDictDisplayH
import HandS.SortInts
import KE.DataMinMax
import HandS.Flow
import HandS.HotCalls
import HandS.ExcIs
import KE.DataFind
import KE.KDictLaws
import KE.SortKeyHeap
import HandS.SortKw
import HandS.Strs
import HandS.TupSets
import HandS.DictTup
import HandS.WideBits
import PySem.Challenge.RW_palmhall_k37_whole_deals_parted
section
set_option Elab.async false
set_option linter.all false
set_option maxRecDepth 100000
namespace VL
open PySem PySem.Spec PyProof.Rows L2

noncomputable abbrev Fg := PySem.W.Frag
noncomputable abbrev Sg := List (Option V)
noncomputable abbrev FP := Nat → List Addr
inductive Tr where
  | dat (d : PyData)
  | tup (ts : List Tr)
  | lst (ts : List Tr)
  | dk (kvs : List (Key × Tr))
  | dt (kvs : List (List Key × Tr))
  | ins (c : Str) (fs : List (Str × Tr))
  /-- dicts that are walked and no more written -/
  | fk (kvs : List (Key × PyData))
  | ft (kvs : List (List Key × PyData))
  /-- a value that is known, of no meaning; one that is not known -/
  | raw (v : V)
  /-- a dict of data that is frozen: it may stand in several trees -/
  | sd (kvs : List (Key × PyData))
  | hole
inductive Md where
  | free | pin | lock
  /-- a pinned tree of which a local names the part at p -/
  | bor (p : List Nat)
noncomputable def Md.pn : Md → Bool
  | .pin => true
  | .bor _ => true
  | _ => false
inductive Sl where
  | no
  | val (d : PyData)
  | own (m : Md) (t : Tr)
  /-- the part at p of slot i, while that is borrowed at p -/
  | al (i : Nat) (p : List Nat)
noncomputable abbrev Rho := List Sl

noncomputable def sg (σ : Sg) (i : Nat) : Option V := (σ[i]?).getD none
theorem sg_some {σ : Sg} {i : Nat} {v : V} : sg σ i = some v ↔ σ[i]? = some (some v) := by
  unfold sg
  cases h : σ[i]? with
  | none => simp
  | some x => simp

theorem rd_mono {H H' : Hp} {a : Addr} {u : HO} (e : Same H H') (h : Rd H a u) : Rd H' a u := by
  rcases h with h | ⟨o, h⟩
  · exact .inl (e _ _ h)
  · exact .inr ⟨o, e _ _ h⟩
noncomputable def isInt : PyData → Bool
  | .int _ => true
  | _ => false
noncomputable def kOk (ds : List PyData) : Bool := decide (ds.length ≤ 1) || ds.all isInt
noncomputable def TupA (K : Fg) (H : Hp) (a : Addr) (xs : List V) (ds : List PyData) : Prop :=
  H a = some (.tup xs) ∨ (kOk ds = true ∧ ∃ (o : Obj) (its : Array Value) (n : Nat), K.lookup a = some o ∧ o.cls = .type "tuple" ∧ o.data = .seq its n ∧ its.size ≤ sizeLine ∧ Vals xs its.toList)
theorem TupA.sq {K : Fg} {H : Hp} {a : Addr} {xs : List V} {ds : List PyData} (h : TupA K H a xs ds) : SqT K H a xs := by
  rcases h with h | ⟨_, h⟩
  · exact SqT.of h
  · exact .inr h
theorem TupA.mono {K : Fg} {H H' : Hp} {a : Addr} {xs : List V} {ds : List PyData} (h : TupA K H a xs ds) (s : Same H H') : TupA K H' a xs ds := by
  rcases h with h | h
  · exact .inl (s _ _ h)
  · exact .inr h
mutual
/-- data: as Dp of the layer, but that a list stands in H -/
inductive Dq (K : Fg) (H : Hp) : V → PyData → Prop
  | non : Dq K H .non .none
  | bl (b : Bool) : Dq K H (.bl b) (.bool b)
  | int (i : Int) : Dq K H (.int i) (.int i)
  | str (x : Str) : Dq K H (.str x) (.str x)
  | lst {a : Addr} {xs : List V} {ds : List PyData} : Rd H a (.lst xs) → DqAll K H xs ds → Dq K H (.ref a) (.list ds)
  | tups {a : Addr} {xs : List V} {ds : List PyData} : TupA K H a xs ds → DqAll K H xs ds → Dq K H (.ref a) (.tuple ds)
  /-- the script: a list of ints that may stand in the written part; told as a dict, so that nothing but its items and its length is asked -/
  | scr {a : Addr} {ns : List Int} : SqL K H a (ns.map V.int) → Dq K H (.ref a) (.dict (ns.map fun i => (.int i, .none)))
inductive DqAll (K : Fg) (H : Hp) : List V → List PyData → Prop
  | nil : DqAll K H [] []
  | cons {v : V} {vs : List V} {d : PyData} {ds : List PyData} : Dq K H v d → DqAll K H vs ds → DqAll K H (v :: vs) (d :: ds)
end
theorem Dq.tup {K : Fg} {H : Hp} {a : Addr} {xs : List V} {ds : List PyData} (h : H a = some (.tup xs)) (ha : DqAll K H xs ds) : Dq K H (.ref a) (.tuple ds) := .tups (.inl h) ha
mutual
theorem dq_dp {K : Fg} {F : Hp} : ∀ (d : PyData) (v : V), d.canLay0 = true → Dq K F v d → L2.Dp K F v d
  | .none, _, _, h => by cases h; exact .non
  | .bool b, _, _, h => by cases h; exact .bl b
  | .int i, _, _, h => by cases h; exact .int i
  | .str x, _, _, h => by cases h; exact .str x
  | .list ds, _, c, h => by
    cases h with
    | lst hs ha => exact .lst (.inl hs) (dqAll_dp ds _ (by simpa [PyData.canLay0] using c) ha)
  | .tuple ds, _, c, h => by
    cases h with
    | tups hs ha => exact .tup hs.sq (dqAll_dp ds _ (by simpa [PyData.canLay0] using c) ha)
  | .dict _, _, c, _ => by simp [PyData.canLay0] at c
theorem dqAll_dp {K : Fg} {F : Hp} : ∀ (ds : List PyData) (vs : List V), PyData.canLayAll0 ds = true → DqAll K F vs ds → L2.DpAll K F vs ds
  | [], _, _, h => by cases h; exact .nil
  | d :: ds, _, c, h => by
    have c' : d.canLay0 = true ∧ PyData.canLayAll0 ds = true := by simpa [PyData.canLayAll0] using c
    cases h with
    | cons h1 h2 => exact .cons (dq_dp d _ c'.1 h1) (dqAll_dp ds _ c'.2 h2)
end
mutual
theorem dq_mono {K : Fg} {F F' : Hp} (s : Same F F') : ∀ (d : PyData) (v : V), Dq K F v d → Dq K F' v d
  | .none, _, h => by cases h; exact .non
  | .bool b, _, h => by cases h; exact .bl b
  | .int i, _, h => by cases h; exact .int i
  | .str x, _, h => by cases h; exact .str x
  | .list ds, _, h => by
    cases h with
    | lst hs ha => exact .lst (rd_mono s hs) (dqAll_mono s ds _ ha)
  | .tuple ds, _, h => by
    cases h with
    | tups hs ha => exact .tups (hs.mono s) (dqAll_mono s ds _ ha)
  | .dict _, _, h => by
    cases h with
    | scr hs => exact .scr (s.seq hs)
theorem dqAll_mono {K : Fg} {F F' : Hp} (s : Same F F') : ∀ (ds : List PyData) (vs : List V), DqAll K F vs ds → DqAll K F' vs ds
  | [], _, h => by cases h; exact .nil
  | d :: ds, _, h => by
    cases h with
    | cons h1 h2 => exact .cons (dq_mono s d _ h1) (dqAll_mono s ds _ h2)
end
theorem dqAll_len {K : Fg} {F : Hp} : ∀ {vs : List V} {ds : List PyData}, DqAll K F vs ds → vs.length = ds.length
  | _, _, .nil => rfl
  | _, _, .cons _ t => by simp [dqAll_len t]
theorem dqAll_get {K : Fg} {F : Hp} : ∀ {vs : List V} {ds : List PyData} {i : Nat} {d : PyData}, DqAll K F vs ds → ds[i]? = some d → ∃ v, vs[i]? = some v ∧ Dq K F v d
  | _, _, _, _, .nil, e => by simp at e
  | _, _, 0, _, .cons r _, e => by simp at e; subst e; exact ⟨_, rfl, r⟩
  | _, _, i + 1, x, .cons _ t, e => by
    obtain ⟨u, h1, h2⟩ := dqAll_get (i := i) (d := x) t (by simpa using e)
    exact ⟨u, by simpa using h1, h2⟩
theorem dqAll_app {K : Fg} {F : Hp} : ∀ {vs ws : List V} {ds es : List PyData}, DqAll K F vs ds → DqAll K F ws es → DqAll K F (vs ++ ws) (ds ++ es)
  | _, _, _, _, .nil, s => s
  | _, _, _, _, .cons r t, s => .cons r (dqAll_app t s)
theorem dqAll_take {K : Fg} {F : Hp} : ∀ {vs : List V} {ds : List PyData} (n : Nat), DqAll K F vs ds → DqAll K F (vs.take n) (ds.take n)
  | _, _, 0, _ => .nil
  | _, _, _ + 1, .nil => .nil
  | _, _, n + 1, .cons r t => .cons r (dqAll_take n t)
theorem dqAll_drop {K : Fg} {F : Hp} : ∀ {vs : List V} {ds : List PyData} (n : Nat), DqAll K F vs ds → DqAll K F (vs.drop n) (ds.drop n)
  | _, _, 0, r => r
  | _, _, _ + 1, .nil => .nil
  | _, _, n + 1, .cons _ t => dqAll_drop n t

noncomputable def Prs {κ : Type} (K : Fg) (F : Hp) (vs : List (κ × V)) (ds : List (κ × PyData)) : Prop := vs.map (·.1) = ds.map (·.1) ∧ DqAll K F (vs.map (·.2)) (ds.map (·.2))
theorem Prs.mono {κ : Type} {K : Fg} {F F' : Hp} {vs : List (κ × V)} {ds : List (κ × PyData)} (s : Same F F') (h : Prs K F vs ds) : Prs K F' vs ds := ⟨h.1, dqAll_mono s _ _ h.2⟩
noncomputable def KT (H : Hp) (b : Addr) : Prop := (∃ ks : List Key, H b = some (.tup (ks.map kV))) ∨ ∃ ps, H b = some (.tbl ps)
mutual
inductive TrOk (K : Fg) (F H : Hp) : V → Tr → List Addr → Prop
  | dat {v : V} {d : PyData} : Dq K F v d → TrOk K F H v (.dat d) []
  | tup {a : Addr} {vs : List V} {ts : List Tr} {A : List Addr} : H a = some (.tup vs) → (F a = none ∧ ∀ ks : List Key, vs ≠ ks.map kV) → TrsOk K F H vs ts A → TrOk K F H (.ref a) (.tup ts) (a :: A)
  | lst {a : Addr} {vs : List V} {ts : List Tr} {A : List Addr} : H a = some (.lst vs) → F a = none → TrsOk K F H vs ts A → TrOk K F H (.ref a) (.lst ts) (a :: A)
  | dk {a : Addr} {vs : List (Key × V)} {ts : List (Key × Tr)} {A : List Addr} : H a = some (.dK vs) → F a = none → vs.map (·.1) = ts.map (·.1) → TrsOk K F H (vs.map (·.2)) (ts.map (·.2)) A → TrOk K F H (.ref a) (.dk ts) (a :: A)
  | dt {a : Addr} {vs : List (List Key × V)} {ts : List (List Key × Tr)} {A : List Addr} : H a = some (.dT vs) → F a = none → vs.map (·.1) = ts.map (·.1) → TrsOk K F H (vs.map (·.2)) (ts.map (·.2)) A → TrOk K F H (.ref a) (.dt ts) (a :: A)
  | ins {a C dx : Addr} {c : Str} {vs : List (Str × V)} {ts : List (Str × Tr)} {A : List Addr} : H a = some (.ins C dx vs) → F a = none → PySem.W.nsIn K mainGlobals c = some (some (.ref C)) → vs.map (·.1) = ts.map (·.1) → TrsOk K F H (vs.map (·.2)) (ts.map (·.2)) A → TrOk K F H (.ref a) (.ins c ts) (a :: A)
  | fk {a : Addr} {o : Obj} {vs : List (Key × V)} {ds : List (Key × PyData)} : H a = some (.frz o (.dK vs)) → F a = none → Prs K F vs ds → TrOk K F H (.ref a) (.fk ds) [a]
  | ft {a : Addr} {o : Obj} {vs : List (List Key × V)} {ds : List (List Key × PyData)} : H a = some (.frz o (.dT vs)) → F a = none → Prs K F vs ds → TrOk K F H (.ref a) (.ft ds) [a]
  | raw {v : V} : TrOk K F H v (.raw v) []
  | sd {a : Addr} {o : Obj} {vs : List (Key × V)} {ds : List (Key × PyData)} : F a = some (.frz o (.dK vs)) → Prs K F vs ds → TrOk K F H (.ref a) (.sd ds) []
  | hole {v : V} : TrOk K F H v .hole []
inductive TrsOk (K : Fg) (F H : Hp) : List V → List Tr → List Addr → Prop
  | nil : TrsOk K F H [] [] []
  | cons {v : V} {vs : List V} {t : Tr} {ts : List Tr} {A B : List Addr} : TrOk K F H v t A → TrsOk K F H vs ts B → TrsOk K F H (v :: vs) (t :: ts) (A ++ B)
end
section
variable {K : Fg} {F H F' H' : Hp}
mutual
theorem TrOk.mem : ∀ {v : V} {t : Tr} {A : List Addr}, TrOk K F H v t A → ∀ b ∈ A, H b ≠ none ∧ F b = none
  | _, _, _, .dat _, _, h => nomatch h
  | _, _, _, .tup e f r, b, h => by
    rcases List.mem_cons.mp h with rfl | h
    · exact ⟨(by rw [e]; exact fun z => nomatch z), f.1⟩
    · exact TrsOk.mem r b h
  | _, _, _, .lst e f r, b, h => by
    rcases List.mem_cons.mp h with rfl | h
    · exact ⟨(by rw [e]; exact fun z => nomatch z), f⟩
    · exact TrsOk.mem r b h
  | _, _, _, .dk e f _ r, b, h => by
    rcases List.mem_cons.mp h with rfl | h
    · exact ⟨(by rw [e]; exact fun z => nomatch z), f⟩
    · exact TrsOk.mem r b h
  | _, _, _, .dt e f _ r, b, h => by
    rcases List.mem_cons.mp h with rfl | h
    · exact ⟨(by rw [e]; exact fun z => nomatch z), f⟩
    · exact TrsOk.mem r b h
  | _, _, _, .ins e f _ _ r, b, h => by
    rcases List.mem_cons.mp h with rfl | h
    · exact ⟨(by rw [e]; exact fun z => nomatch z), f⟩
    · exact TrsOk.mem r b h
  | _, _, _, .fk e f _, b, h => by
    rw [List.mem_singleton.mp h]
    exact ⟨(by rw [e]; exact fun z => nomatch z), f⟩
  | _, _, _, .ft e f _, b, h => by
    rw [List.mem_singleton.mp h]
    exact ⟨(by rw [e]; exact fun z => nomatch z), f⟩
  | _, _, _, .raw, _, h => nomatch h
  | _, _, _, .sd _ _, _, h => nomatch h
  | _, _, _, .hole, _, h => nomatch h
theorem TrsOk.mem : ∀ {vs : List V} {ts : List Tr} {A : List Addr}, TrsOk K F H vs ts A → ∀ b ∈ A, H b ≠ none ∧ F b = none
  | _, _, _, .nil, _, h => nomatch h
  | _, _, _, .cons q r, b, h => by
    rcases List.mem_append.mp h with h | h
    · exact TrOk.mem q b h
    · exact TrsOk.mem r b h
end
mutual
theorem TrOk.ntb : ∀ {v : V} {t : Tr} {A : List Addr}, TrOk K F H v t A → ∀ b ∈ A, ∀ ps, H b ≠ some (.tbl ps)
  | _, _, _, .dat _, _, h => nomatch h
  | _, _, _, .tup e f r, b, h => by
    rcases List.mem_cons.mp h with rfl | h
    · intro ps z; rw [e] at z; cases z
    · exact TrsOk.ntb r b h
  | _, _, _, .lst e f r, b, h => by
    rcases List.mem_cons.mp h with rfl | h
    · intro ps z; rw [e] at z; cases z
    · exact TrsOk.ntb r b h
  | _, _, _, .dk e f _ r, b, h => by
    rcases List.mem_cons.mp h with rfl | h
    · intro ps z; rw [e] at z; cases z
    · exact TrsOk.ntb r b h
  | _, _, _, .dt e f _ r, b, h => by
    rcases List.mem_cons.mp h with rfl | h
    · intro ps z; rw [e] at z; cases z
    · exact TrsOk.ntb r b h
  | _, _, _, .ins e f _ _ r, b, h => by
    rcases List.mem_cons.mp h with rfl | h
    · intro ps z; rw [e] at z; cases z
    · exact TrsOk.ntb r b h
  | _, _, _, .fk e f _, b, h => by
    rw [List.mem_singleton.mp h]
    intro ps z; rw [e] at z; cases z
  | _, _, _, .ft e f _, b, h => by
    rw [List.mem_singleton.mp h]
    intro ps z; rw [e] at z; cases z
  | _, _, _, .raw, _, h => nomatch h
  | _, _, _, .sd _ _, _, h => nomatch h
  | _, _, _, .hole, _, h => nomatch h
theorem TrsOk.ntb : ∀ {vs : List V} {ts : List Tr} {A : List Addr}, TrsOk K F H vs ts A → ∀ b ∈ A, ∀ ps, H b ≠ some (.tbl ps)
  | _, _, _, .nil, _, h => nomatch h
  | _, _, _, .cons q r, b, h => by
    rcases List.mem_append.mp h with h | h
    · exact TrOk.ntb q b h
    · exact TrsOk.ntb r b h
end
mutual
theorem TrOk.nkt : ∀ {v : V} {t : Tr} {A : List Addr}, TrOk K F H v t A → ∀ b ∈ A, ¬ KT H b
  | _, _, _, .dat _, _, h => nomatch h
  | _, _, _, .tup e f r, b, h => by
    rcases List.mem_cons.mp h with rfl | h
    · rintro (⟨ks, z⟩ | ⟨ps, z⟩)
      · rw [e] at z; exact f.2 ks (by injection z with z; injection z)
      · rw [e] at z; cases z
    · exact TrsOk.nkt r b h
  | _, _, _, .lst e f r, b, h => by
    rcases List.mem_cons.mp h with rfl | h
    · rintro (⟨ks, z⟩ | ⟨ps, z⟩) <;> rw [e] at z <;> cases z
    · exact TrsOk.nkt r b h
  | _, _, _, .dk e f _ r, b, h => by
    rcases List.mem_cons.mp h with rfl | h
    · rintro (⟨ks, z⟩ | ⟨ps, z⟩) <;> rw [e] at z <;> cases z
    · exact TrsOk.nkt r b h
  | _, _, _, .dt e f _ r, b, h => by
    rcases List.mem_cons.mp h with rfl | h
    · rintro (⟨ks, z⟩ | ⟨ps, z⟩) <;> rw [e] at z <;> cases z
    · exact TrsOk.nkt r b h
  | _, _, _, .ins e f _ _ r, b, h => by
    rcases List.mem_cons.mp h with rfl | h
    · rintro (⟨ks, z⟩ | ⟨ps, z⟩) <;> rw [e] at z <;> cases z
    · exact TrsOk.nkt r b h
  | _, _, _, .fk e f _, b, h => by
    rw [List.mem_singleton.mp h]
    rintro (⟨ks, z⟩ | ⟨ps, z⟩) <;> rw [e] at z <;> cases z
  | _, _, _, .ft e f _, b, h => by
    rw [List.mem_singleton.mp h]
    rintro (⟨ks, z⟩ | ⟨ps, z⟩) <;> rw [e] at z <;> cases z
  | _, _, _, .raw, _, h => nomatch h
  | _, _, _, .sd _ _, _, h => nomatch h
  | _, _, _, .hole, _, h => nomatch h
theorem TrsOk.nkt : ∀ {vs : List V} {ts : List Tr} {A : List Addr}, TrsOk K F H vs ts A → ∀ b ∈ A, ¬ KT H b
  | _, _, _, .nil, _, h => nomatch h
  | _, _, _, .cons q r, b, h => by
    rcases List.mem_append.mp h with h | h
    · exact TrOk.nkt q b h
    · exact TrsOk.nkt r b h
end
mutual
theorem TrOk.move (s : Same F F') : ∀ {v : V} {t : Tr} {A : List Addr}, TrOk K F H v t A → (∀ b ∈ A, H' b = H b ∧ F' b = none) → TrOk K F' H' v t A
  | _, _, _, .dat d, _ => .dat (dq_mono s _ _ d)
  | _, _, _, .tup e f r, h => .tup ((h _ List.mem_cons_self).1.trans e) ⟨(h _ List.mem_cons_self).2, f.2⟩ (TrsOk.move s r fun b z => h b (List.mem_cons_of_mem _ z))
  | _, _, _, .lst e f r, h => .lst ((h _ List.mem_cons_self).1.trans e) (h _ List.mem_cons_self).2 (TrsOk.move s r fun b z => h b (List.mem_cons_of_mem _ z))
  | _, _, _, .dk e f k r, h => .dk ((h _ List.mem_cons_self).1.trans e) (h _ List.mem_cons_self).2 k (TrsOk.move s r fun b z => h b (List.mem_cons_of_mem _ z))
  | _, _, _, .dt e f k r, h => .dt ((h _ List.mem_cons_self).1.trans e) (h _ List.mem_cons_self).2 k (TrsOk.move s r fun b z => h b (List.mem_cons_of_mem _ z))
  | _, _, _, .ins e f kc k r, h => .ins ((h _ List.mem_cons_self).1.trans e) (h _ List.mem_cons_self).2 kc k (TrsOk.move s r fun b z => h b (List.mem_cons_of_mem _ z))
  | _, _, _, .fk e f r, h => .fk ((h _ List.mem_cons_self).1.trans e) (h _ List.mem_cons_self).2 (r.mono s)
  | _, _, _, .ft e f r, h => .ft ((h _ List.mem_cons_self).1.trans e) (h _ List.mem_cons_self).2 (r.mono s)
  | _, _, _, .raw, _ => .raw
  | _, _, _, .sd e r, _ => .sd (s _ _ e) (r.mono s)
  | _, _, _, .hole, _ => .hole
theorem TrsOk.move (s : Same F F') : ∀ {vs : List V} {ts : List Tr} {A : List Addr}, TrsOk K F H vs ts A → (∀ b ∈ A, H' b = H b ∧ F' b = none) → TrsOk K F' H' vs ts A
  | _, _, _, .nil, _ => .nil
  | _, _, _, .cons q r, h => .cons (TrOk.move s q fun b z => h b (List.mem_append_left _ z)) (TrsOk.move s r fun b z => h b (List.mem_append_right _ z))
end
mutual
/-- as data -/
noncomputable def Tr.toD : Tr → Option PyData
  | .dat d => some d
  | .tup ts => (Tr.toDs ts).map .tuple
  | .lst ts => (Tr.toDs ts).map .list
  | .dk _ => none
  | .dt _ => none
  | .ins _ _ => none
  | .fk _ => none
  | .ft _ => none
  | .raw _ => none
  | .sd _ => none
  | .hole => none
noncomputable def Tr.toDs : List Tr → Option (List PyData)
  | [] => some []
  | t :: ts => match Tr.toD t, Tr.toDs ts with
    | some d, some ds => some (d :: ds)
    | _, _ => none
end
noncomputable def frz (F H : Hp) (A : List Addr) : Hp := fun b => if b ∈ A then H b else F b
theorem frz_same {A : List Addr} (hA : ∀ b ∈ A, F b = none) : Same F (frz F H A) := fun b o e => by
  unfold frz
  rw [if_neg fun z => by rw [hA b z] at e; cases e]
  exact e
theorem frz_sub {A : List Addr} (s : Same F H) : Same (frz F H A) H := fun b o e => by
  unfold frz at e
  split at e
  · exact e
  · exact s b o e
mutual
/-- over G: what is frozen (of G, at least) reads as data -/
theorem TrOk.dp {G : Hp} (s : Same F G) : ∀ {v : V} {t : Tr} {A : List Addr} {d : PyData}, TrOk K F H v t A → (∀ b ∈ A, G b = H b) → t.toD = some d → Dq K G v d
  | _, _, _, _, .dat q, _, e => by
    simp only [Tr.toD] at e; cases e
    exact dq_mono s _ _ q
  | _, .tup ts, _, d, .tup q _ r, h, e => by
    simp only [Tr.toD] at e
    cases z : Tr.toDs ts with
    | none => rw [z] at e; cases e
    | some ds =>
      rw [z] at e; cases e
      exact .tup ((h _ List.mem_cons_self).trans q) (TrsOk.dp s r (fun b z => h b (List.mem_cons_of_mem _ z)) z)
  | _, .lst ts, _, d, .lst q _ r, h, e => by
    simp only [Tr.toD] at e
    cases z : Tr.toDs ts with
    | none => rw [z] at e; cases e
    | some ds =>
      rw [z] at e; cases e
      exact .lst (.inl ((h _ List.mem_cons_self).trans q)) (TrsOk.dp s r (fun b z => h b (List.mem_cons_of_mem _ z)) z)
  | _, _, _, _, .dk .., _, e => by simp [Tr.toD] at e
  | _, _, _, _, .dt .., _, e => by simp [Tr.toD] at e
  | _, _, _, _, .ins .., _, e => by simp [Tr.toD] at e
  | _, _, _, _, .fk .., _, e => by simp [Tr.toD] at e
  | _, _, _, _, .ft .., _, e => by simp [Tr.toD] at e
  | _, _, _, _, .raw, _, e => by simp [Tr.toD] at e
  | _, _, _, _, .sd _ _, _, e => by simp [Tr.toD] at e
  | _, _, _, _, .hole, _, e => by simp [Tr.toD] at e
theorem TrsOk.dp {G : Hp} (s : Same F G) : ∀ {vs : List V} {ts : List Tr} {A : List Addr} {ds : List PyData}, TrsOk K F H vs ts A → (∀ b ∈ A, G b = H b) → Tr.toDs ts = some ds → DqAll K G vs ds
  | _, _, _, _, .nil, _, e => by
    simp only [Tr.toDs] at e; cases e
    exact .nil
  | _, t :: ts, _, _, .cons q r, h, e => by
    simp only [Tr.toDs] at e
    cases z : t.toD with
    | none => rw [z] at e; cases e
    | some d =>
      cases y : Tr.toDs ts with
      | none => rw [z, y] at e; cases e
      | some ds' =>
        rw [z, y] at e; cases e
        exact .cons (TrOk.dp s q (fun b z => h b (List.mem_append_left _ z)) z) (TrsOk.dp s r (fun b z => h b (List.mem_append_right _ z)) y)
end
end
theorem TrsOk.len {K : Fg} {F H : Hp} : ∀ {vs : List V} {ts : List Tr} {A : List Addr}, TrsOk K F H vs ts A → vs.length = ts.length
  | _, _, _, .nil => rfl
  | _, _, _, .cons _ t => by simp [TrsOk.len t]
theorem trs_dat {K : Fg} {F H : Hp} : ∀ {vs : List V} {ds : List PyData}, DqAll K F vs ds → TrsOk K F H vs (ds.map .dat) []
  | _, _, .nil => .nil
  | _, _, .cons h t => by
    have := TrsOk.cons (TrOk.dat (H := H) h) (trs_dat (H := H) t)
    simpa using this
theorem trs_dat' {K : Fg} {F H : Hp} : ∀ {vs : List V} {ds : List PyData} {A : List Addr}, TrsOk K F H vs (ds.map .dat) A → A = [] ∧ DqAll K F vs ds
  | _, [], _, .nil => ⟨rfl, .nil⟩
  | _, d :: ds, _, .cons q r => by
    cases q with
    | dat q =>
      obtain ⟨e, z⟩ := trs_dat' (ds := ds) r
      subst e
      exact ⟨rfl, .cons q z⟩
theorem toDs_dat : ∀ ds : List PyData, Tr.toDs (ds.map .dat) = some ds
  | [] => by simp [Tr.toDs]
  | d :: ds => by simp [Tr.toDs, Tr.toD, toDs_dat ds]

noncomputable def kids : Tr → List Tr
  | .dat _ => []
  | .tup ts => ts
  | .lst ts => ts
  | .dk kvs => kvs.map (·.2)
  | .dt kvs => kvs.map (·.2)
  | .ins _ fs => fs.map (·.2)
  | .fk _ => []
  | .ft _ => []
  | .raw _ => []
  | .sd _ => []
  | .hole => []
noncomputable def setSnd {κ : Type} : List (κ × Tr) → Nat → Tr → List (κ × Tr)
  | [], _, _ => []
  | (k, _) :: r, 0, t => (k, t) :: r
  | p :: r, j + 1, t => p :: setSnd r j t
noncomputable def setKid : Tr → Nat → Tr → Tr
  | .dat d, _, _ => .dat d
  | .tup ts, j, t => .tup (ts.set j t)
  | .lst ts, j, t => .lst (ts.set j t)
  | .dk kvs, j, t => .dk (setSnd kvs j t)
  | .dt kvs, j, t => .dt (setSnd kvs j t)
  | .ins C fs, j, t => .ins C (setSnd fs j t)
  | .fk d, _, _ => .fk d
  | .ft d, _, _ => .ft d
  | .raw d, _, _ => .raw d
  | .sd d, _, _ => .sd d
  | .hole, _, _ => .hole
noncomputable def Tr.at : Tr → List Nat → Option Tr
  | t, [] => some t
  | t, j :: p => match (kids t)[j]? with
    | some k => k.at p
    | none => none
noncomputable def Tr.put : Tr → List Nat → Tr → Tr
  | _, [], t' => t'
  | t, j :: p, t' => match (kids t)[j]? with
    | some k => setKid t j (k.put p t')
    | none => t
noncomputable def kidsV (H : Hp) : V → List V
  | .ref a => match H a with
    | some (.tup vs) => vs
    | some (.lst vs) => vs
    | some (.dK kvs) => kvs.map (·.2)
    | some (.dT kvs) => kvs.map (·.2)
    | some (.ins _ _ fs) => fs.map (·.2)
    | _ => []
  | _ => []
noncomputable def pathV (H : Hp) : V → List Nat → Option V
  | v, [] => some v
  | v, j :: p => match (kidsV H v)[j]? with
    | some w => pathV H w p
    | none => none
theorem setSnd_fst {κ : Type} : ∀ (l : List (κ × Tr)) (j : Nat) (t : Tr), (setSnd l j t).map (·.1) = l.map (·.1)
  | [], _, _ => rfl
  | (k, _) :: r, 0, t => rfl
  | p :: r, j + 1, t => by simp [setSnd, setSnd_fst r j t]
theorem setSnd_snd {κ : Type} : ∀ (l : List (κ × Tr)) (j : Nat) (t : Tr), (setSnd l j t).map (·.2) = (l.map (·.2)).set j t
  | [], _, _ => rfl
  | (k, _) :: r, 0, t => rfl
  | p :: r, j + 1, t => by simp [setSnd, setSnd_snd r j t]
section
variable {K : Fg} {F H : Hp}
theorem trs_focus : ∀ {vs : List V} {ts : List Tr} {A : List Addr} {j : Nat} {t : Tr}, TrsOk K F H vs ts A → ts[j]? = some t →
    ∃ v pre B post, vs[j]? = some v ∧ A = pre ++ (B ++ post) ∧ TrOk K F H v t B ∧ ∀ F' H' t' B', Same F F' → (∀ b, b ∈ pre ∨ b ∈ post → H' b = H b ∧ F' b = none) → TrOk K F' H' v t' B' → TrsOk K F' H' vs (ts.set j t') (pre ++ (B' ++ post))
  | _, _, _, j, t, .nil, h => by simp at h
  | _, _, _, 0, t, @TrsOk.cons _ _ _ v vs t0 ts A B q r, h => by
    simp at h
    subst h
    exact ⟨v, [], A, B, rfl, rfl, q, fun F' H' t' B' s hb q' => by
      have z := TrsOk.cons q' (r.move s fun b z => hb b (.inr z))
      exact z⟩
  | _, _, _, j + 1, t, @TrsOk.cons _ _ _ v0 vs t0 ts A B q r, h => by
    obtain ⟨v, pre, B1, post, h1, h2, h3, h4⟩ := trs_focus (j := j) r (by simpa using h)
    refine ⟨v, A ++ pre, B1, post, by simpa using h1, by rw [h2]; simp, h3, fun F' H' t' B' s hb q' => ?_⟩
    have z := TrsOk.cons (q.move s fun b z => hb b (.inl (List.mem_append_left _ z))) (h4 F' H' t' B' s (fun b z => hb b (z.imp_left (List.mem_append_right _))) q')
    rw [List.append_assoc]
    exact z
theorem trs_repl : ∀ {vs : List V} {ts : List Tr} {A : List Addr} {j : Nat} {t : Tr}, TrsOk K F H vs ts A → ts[j]? = some t →
    ∃ v pre B post, vs[j]? = some v ∧ A = pre ++ (B ++ post) ∧ TrOk K F H v t B ∧ ∀ F' H' v' t' B', Same F F' → (∀ b, b ∈ pre ∨ b ∈ post → H' b = H b ∧ F' b = none) → TrOk K F' H' v' t' B' → TrsOk K F' H' (vs.set j v') (ts.set j t') (pre ++ (B' ++ post))
  | _, _, _, j, t, .nil, h => by simp at h
  | _, _, _, 0, t, @TrsOk.cons _ _ _ v vs t0 ts A B q r, h => by
    simp at h
    subst h
    exact ⟨v, [], A, B, rfl, rfl, q, fun F' H' v' t' B' s hb q' => by
      have z := TrsOk.cons q' (r.move s fun b z => hb b (.inr z))
      exact z⟩
  | _, _, _, j + 1, t, @TrsOk.cons _ _ _ v0 vs t0 ts A B q r, h => by
    obtain ⟨v, pre, B1, post, h1, h2, h3, h4⟩ := trs_repl (j := j) r (by simpa using h)
    refine ⟨v, A ++ pre, B1, post, by simpa using h1, by rw [h2]; simp, h3, fun F' H' v' t' B' s hb q' => ?_⟩
    have z := TrsOk.cons (q.move s fun b z => hb b (.inl (List.mem_append_left _ z))) (h4 F' H' v' t' B' s (fun b z => hb b (z.imp_left (List.mem_append_right _))) q')
    rw [List.append_assoc]
    exact z
theorem focus : ∀ {p : List Nat} {v : V} {t t' : Tr} {A : List Addr}, TrOk K F H v t A → t.at p = some t' →
    ∃ v' pre B post, pathV H v p = some v' ∧ A = pre ++ (B ++ post) ∧ TrOk K F H v' t' B ∧ ∀ F' H' t'' B', Same F F' → (∀ b, b ∈ pre ∨ b ∈ post → H' b = H b ∧ F' b = none) → TrOk K F' H' v' t'' B' → TrOk K F' H' v (t.put p t'') (pre ++ (B' ++ post)) ∧ pathV H' v p = some v'
  | [], v, t, t', A, q, h => by
    simp only [Tr.at] at h
    cases h
    exact ⟨v, [], A, [], rfl, by simp, q, fun F' H' t'' B' s hb q' => ⟨by simpa [Tr.put] using q', rfl⟩⟩
  | j :: p, v, t, t', A, q, h => by
    simp only [Tr.at] at h
    split at h
    · rename_i k hk
      cases q with
      | dat q => simp [kids] at hk
      | fk _ _ _ => simp [kids] at hk
      | ft _ _ _ => simp [kids] at hk
      | raw => simp [kids] at hk
      | sd _ _ => simp [kids] at hk
      | hole => simp [kids] at hk
      | @tup a vs ts A e f r =>
        obtain ⟨v1, pre, B, post, h1, h2, h3, h4⟩ := trs_focus r hk
        obtain ⟨v', pre', B', post', g1, g2, g3, g4⟩ := focus h3 h
        refine ⟨v', a :: (pre ++ pre'), B', post' ++ post, by simp [pathV, kidsV, e, h1, g1], by rw [h2, g2]; simp, g3, fun F' H' t'' B'' s hb q' => ?_⟩
        have ha := hb a (.inl List.mem_cons_self)
        obtain ⟨z, zp⟩ := g4 F' H' t'' B'' s (fun b z => hb b (z.imp (fun w => List.mem_cons_of_mem _ (List.mem_append_right _ w)) (List.mem_append_left _))) q'
        have y := h4 F' H' _ _ s (fun b z => hb b (z.imp (fun w => List.mem_cons_of_mem _ (List.mem_append_left _ w)) (List.mem_append_right _))) z
        refine ⟨?_, by simp [pathV, kidsV, ha.1, e, h1, zp]⟩
        simp only [Tr.put, hk, setKid]
        have x := TrOk.tup (ha.1.trans e) ⟨ha.2, f.2⟩ y
        simpa [List.append_assoc] using x
      | @lst a vs ts A e f r =>
        obtain ⟨v1, pre, B, post, h1, h2, h3, h4⟩ := trs_focus r hk
        obtain ⟨v', pre', B', post', g1, g2, g3, g4⟩ := focus h3 h
        refine ⟨v', a :: (pre ++ pre'), B', post' ++ post, by simp [pathV, kidsV, e, h1, g1], by rw [h2, g2]; simp, g3, fun F' H' t'' B'' s hb q' => ?_⟩
        have ha := hb a (.inl List.mem_cons_self)
        obtain ⟨z, zp⟩ := g4 F' H' t'' B'' s (fun b z => hb b (z.imp (fun w => List.mem_cons_of_mem _ (List.mem_append_right _ w)) (List.mem_append_left _))) q'
        have y := h4 F' H' _ _ s (fun b z => hb b (z.imp (fun w => List.mem_cons_of_mem _ (List.mem_append_left _ w)) (List.mem_append_right _))) z
        refine ⟨?_, by simp [pathV, kidsV, ha.1, e, h1, zp]⟩
        simp only [Tr.put, hk, setKid]
        have x := TrOk.lst (ha.1.trans e) ha.2 y
        simpa [List.append_assoc] using x
      | @dk a vs ts A e f kk r =>
        obtain ⟨v1, pre, B, post, h1, h2, h3, h4⟩ := trs_focus r hk
        obtain ⟨v', pre', B', post', g1, g2, g3, g4⟩ := focus h3 h
        refine ⟨v', a :: (pre ++ pre'), B', post' ++ post, by simp only [pathV, kidsV, e, h1]; exact g1, by rw [h2, g2]; simp, g3, fun F' H' t'' B'' s hb q' => ?_⟩
        have ha := hb a (.inl List.mem_cons_self)
        obtain ⟨z, zp⟩ := g4 F' H' t'' B'' s (fun b z => hb b (z.imp (fun w => List.mem_cons_of_mem _ (List.mem_append_right _ w)) (List.mem_append_left _))) q'
        have y := h4 F' H' _ _ s (fun b z => hb b (z.imp (fun w => List.mem_cons_of_mem _ (List.mem_append_left _ w)) (List.mem_append_right _))) z
        refine ⟨?_, by simp only [pathV, kidsV, ha.1, e, h1]; exact zp⟩
        simp only [Tr.put, hk, setKid]
        rw [← setSnd_snd] at y
        have x := TrOk.dk (ha.1.trans e) ha.2 (by rw [setSnd_fst]; exact kk) y
        simpa [List.append_assoc] using x
      | @dt a vs ts A e f kk r =>
        obtain ⟨v1, pre, B, post, h1, h2, h3, h4⟩ := trs_focus r hk
        obtain ⟨v', pre', B', post', g1, g2, g3, g4⟩ := focus h3 h
        refine ⟨v', a :: (pre ++ pre'), B', post' ++ post, by simp only [pathV, kidsV, e, h1]; exact g1, by rw [h2, g2]; simp, g3, fun F' H' t'' B'' s hb q' => ?_⟩
        have ha := hb a (.inl List.mem_cons_self)
        obtain ⟨z, zp⟩ := g4 F' H' t'' B'' s (fun b z => hb b (z.imp (fun w => List.mem_cons_of_mem _ (List.mem_append_right _ w)) (List.mem_append_left _))) q'
        have y := h4 F' H' _ _ s (fun b z => hb b (z.imp (fun w => List.mem_cons_of_mem _ (List.mem_append_left _ w)) (List.mem_append_right _))) z
        refine ⟨?_, by simp only [pathV, kidsV, ha.1, e, h1]; exact zp⟩
        simp only [Tr.put, hk, setKid]
        rw [← setSnd_snd] at y
        have x := TrOk.dt (ha.1.trans e) ha.2 (by rw [setSnd_fst]; exact kk) y
        simpa [List.append_assoc] using x
      | @ins a C dx c vs ts A e f kc kk r =>
        obtain ⟨v1, pre, B, post, h1, h2, h3, h4⟩ := trs_focus r hk
        obtain ⟨v', pre', B', post', g1, g2, g3, g4⟩ := focus h3 h
        refine ⟨v', a :: (pre ++ pre'), B', post' ++ post, by simp only [pathV, kidsV, e, h1]; exact g1, by rw [h2, g2]; simp, g3, fun F' H' t'' B'' s hb q' => ?_⟩
        have ha := hb a (.inl List.mem_cons_self)
        obtain ⟨z, zp⟩ := g4 F' H' t'' B'' s (fun b z => hb b (z.imp (fun w => List.mem_cons_of_mem _ (List.mem_append_right _ w)) (List.mem_append_left _))) q'
        have y := h4 F' H' _ _ s (fun b z => hb b (z.imp (fun w => List.mem_cons_of_mem _ (List.mem_append_left _ w)) (List.mem_append_right _))) z
        refine ⟨?_, by simp only [pathV, kidsV, ha.1, e, h1]; exact zp⟩
        simp only [Tr.put, hk, setKid]
        rw [← setSnd_snd] at y
        have x := TrOk.ins (ha.1.trans e) ha.2 kc (by rw [setSnd_fst]; exact kk) y
        simpa [List.append_assoc] using x
    · cases h
theorem path_stays {H' : Hp} {v : V} {t t' : Tr} {A : List Addr} {p : List Nat} {w : V} (q : TrOk K F H v t A) (h : t.at p = some t') (e : pathV H v p = some w) (hb : ∀ b ∈ A, H' b = H b) : pathV H' v p = some w := by
  obtain ⟨v', pre, B, post, g1, g2, g3, g4⟩ := focus q h
  rw [g1] at e; cases e
  have hF : ∀ b ∈ A, F b = none := fun b z => (q.mem b z).2
  refine (g4 F H' t' B (Same.refl _) (fun b z => ?_) (g3.move (Same.refl _) fun b z => ?_)).2
  · have : b ∈ A := by rw [g2]; rcases z with z | z; exact List.mem_append_left _ z; exact List.mem_append_right _ (List.mem_append_right _ z)
    exact ⟨hb b this, hF b this⟩
  · have : b ∈ A := by rw [g2]; exact List.mem_append_right _ (List.mem_append_left _ z)
    exact ⟨hb b this, hF b this⟩
end

noncomputable def SlOk (K : Fg) (F H : Hp) (v : Option V) (A : List Addr) : Sl → Prop
  | .no => True
  | .val d => ∃ u, v = some u ∧ Dq K F u d
  | .own _ t => ∃ u, v = some u ∧ TrOk K F H u t A
  | .al _ _ => True
noncomputable def AlOk (H : Hp) (σ : Sg) (ρ : Rho) : Prop := ∀ (j i : Nat) p t, ρ[j]? = some (.al i p) → ρ[i]? = some (.own (.bor p) t) → ∃ t' u v, t.at p = some t' ∧ sg σ i = some u ∧ sg σ j = some v ∧ pathV H u p = some v
noncomputable def TbOk (K : Fg) (F H : Hp) : Prop := ∀ c P, PySem.W.tabIn K "price_meant" = some (c, P) → F P = none ∧ ∃ ps : Array Value, H P = some (.tbl ps) ∧ TriplesOk ps.toList ∧ ∀ (pos : Pos) (cv : Value), codeAmong pos ps.toList = some cv → ∃ c', cv = .ref c' ∧ F c' = some (LamX.CodeO c' "price_meant.<locals>.<lambda>")
theorem TbOk.mono {K : Fg} {F H F' H' : Hp} (t : TbOk K F H) (s : Same F F') (h : ∀ P ps, H P = some (.tbl ps) → F P = none → F' P = none ∧ H' P = H P) : TbOk K F' H' := fun c P e => by
  obtain ⟨h1, ps, h2, h3, h4⟩ := t c P e
  obtain ⟨g1, g2⟩ := h P ps h2 h1
  refine ⟨g1, ps, g2.trans h2, h3, fun pos cv z => ?_⟩
  obtain ⟨c', e1, e2⟩ := h4 pos cv z
  exact ⟨c', e1, s _ _ e2⟩
theorem TbOk.same {K : Fg} {F H F' H' : Hp} (t : TbOk K F H) (s : Same F F') (hs : Same H H') (h : ∀ b, F b = none → F' b ≠ none → H b = none) : TbOk K F' H' := t.mono s fun P ps h1 h2 => by
  refine ⟨?_, (hs _ _ h1).trans h1.symm⟩
  cases q : F' P with
  | none => rfl
  | some o =>
    have z := h P h2 (by rw [q]; exact fun z => nomatch z)
    rw [h1] at z
    cases z
theorem TbOk.frz {K : Fg} {F H : Hp} {A : List Addr} (t : TbOk K F H) (hA : ∀ b ∈ A, F b = none) (hn : ∀ b ∈ A, ∀ ps, H b ≠ some (.tbl ps)) : TbOk K (VL.frz F H A) H := t.mono (frz_same hA) fun P ps h1 h2 => by
  refine ⟨?_, rfl⟩
  unfold VL.frz
  rw [if_neg fun z => hn P z ps h1]
  exact h2
theorem TbOk.upd {K : Fg} {F H : Hp} {a : Addr} {o : HO} (t : TbOk K F H) (hn : ∀ ps, H a ≠ some (.tbl ps)) : TbOk K F (L2.upd H a o) := t.mono (Same.refl _) fun P ps h1 h2 => ⟨h2, upd_ne fun z => hn ps (by rw [← z]; exact h1)⟩
structure EnvOk (K : Fg) (F H : Hp) (σ : Sg) (ρ : Rho) (fp : FP) : Prop where
  sub : Same F H
  len : σ.length = ρ.length
  sl : ∀ (i : Nat) s, ρ[i]? = some s → SlOk K F H (sg σ i) (fp i) s
  nil : ∀ (i : Nat), (∀ m t, ρ[i]? ≠ some (Sl.own m t)) → fp i = []
  nd : ∀ i, (fp i).Nodup
  ap : ∀ i j b, b ∈ fp i → b ∈ fp j → i = j
  tb : TbOk K F H
  al : AlOk H σ ρ
theorem EnvOk.al' {K : Fg} {F H H' : Hp} {σ σ' : Sg} {ρ ρ' : Rho} {fp : FP} (E : EnvOk K F H σ ρ fp) (hj : ∀ (j i : Nat) p, ρ'[j]? = some (.al i p) → ρ[j]? = some (.al i p) ∧ sg σ' j = sg σ j)
    (ho : ∀ (i : Nat) p t, ρ'[i]? = some (.own (.bor p) t) → ρ[i]? = some (.own (.bor p) t) ∧ sg σ' i = sg σ i ∧ ∀ b ∈ fp i, H' b = H b) : AlOk H' σ' ρ' := fun j i p t h1 h2 => by
  obtain ⟨a1, a2⟩ := hj j i p h1
  obtain ⟨b1, b2, b3⟩ := ho i p t h2
  obtain ⟨t', u, v, c1, c2, c3, c4⟩ := E.al j i p t a1 b1
  obtain ⟨u', e, q⟩ := E.sl i _ b1
  rw [c2] at e; cases e
  exact ⟨t', u, v, c1, b2.trans c2, a2.trans c3, path_stays q c1 c4 b3⟩
noncomputable def Owns (fp : FP) (b : Addr) : Prop := ∃ i, b ∈ fp i
theorem EnvOk.owned {K : Fg} {F H : Hp} {σ : Sg} {ρ : Rho} {fp : FP} (e : EnvOk K F H σ ρ fp) {i : Nat} {b : Addr} (h : b ∈ fp i) : ∃ m t u, ρ[i]? = some (Sl.own m t) ∧ sg σ i = some u ∧ TrOk K F H u t (fp i) := by
  cases q : ρ[i]? with
  | none => rw [e.nil i fun m t z => by rw [q] at z; cases z] at h; cases h
  | some s =>
    cases s with
    | no => rw [e.nil i fun m t z => by rw [q] at z; cases z] at h; cases h
    | val d => rw [e.nil i fun m t z => by rw [q] at z; cases z] at h; cases h
    | al k p => rw [e.nil i fun m t z => by rw [q] at z; cases z] at h; cases h
    | own m t =>
      obtain ⟨u, e1, e2⟩ := e.sl i _ q
      exact ⟨m, t, u, rfl, e1, e2⟩
theorem EnvOk.there {K : Fg} {F H : Hp} {σ : Sg} {ρ : Rho} {fp : FP} (e : EnvOk K F H σ ρ fp) {b : Addr} (h : Owns fp b) : H b ≠ none ∧ F b = none := by
  obtain ⟨i, h⟩ := h
  obtain ⟨m, t, u, _, _, z⟩ := e.owned h
  exact z.mem b h
theorem EnvOk.ntb {K : Fg} {F H : Hp} {σ : Sg} {ρ : Rho} {fp : FP} (e : EnvOk K F H σ ρ fp) {b : Addr} (h : Owns fp b) : ∀ ps, H b ≠ some (.tbl ps) := by
  obtain ⟨i, h⟩ := h
  obtain ⟨m, t, u, _, _, z⟩ := e.owned h
  exact z.ntb b h

theorem EnvOk.nkt {K : Fg} {F H : Hp} {σ : Sg} {ρ : Rho} {fp : FP} (e : EnvOk K F H σ ρ fp) {b : Addr} (h : Owns fp b) : ¬ KT H b := by
  obtain ⟨i, h⟩ := h
  obtain ⟨m, t, u, _, _, z⟩ := e.owned h
  exact z.nkt b h

structure Step (K : Fg) (F H : Hp) (σ : Sg) (ρ : Rho) (fp : FP) (F' H' : Hp) (σ' : Sg) (ρ' : Rho) (fp' : FP) : Prop where
  env : EnvOk K F' H' σ' ρ' fp'
  fr : Same F F'
  nf : ∀ b, F b = none → F' b ≠ none → H b = none ∨ (Owns fp b ∨ KT H b)
  dom : ∀ b, H' b = none → H b = none
  frame : ∀ b o, H b = some o → ¬ Owns fp b → (∀ ps, o ≠ .tbl ps) → H' b = some o
  own : ∀ b, Owns fp' b → Owns fp b ∨ H b = none
  pin : ∀ (i : Nat) m t, ρ[i]? = some (Sl.own m t) → m.pn = true → sg σ' i = sg σ i ∧ ∃ m' t', ρ'[i]? = some (Sl.own m' t') ∧ m'.pn = true
  lock : ∀ (i : Nat) t, ρ[i]? = some (Sl.own .lock t) → sg σ' i = sg σ i ∧ ρ'[i]? = some (Sl.own .lock t) ∧ fp' i = fp i ∧ ∀ b ∈ fp i, H' b = H b
theorem Step.refl {K : Fg} {F H : Hp} {σ : Sg} {ρ : Rho} {fp : FP} (e : EnvOk K F H σ ρ fp) : Step K F H σ ρ fp F H σ ρ fp :=
  ⟨e, Same.refl _, fun _ h h' => absurd h h', fun _ h => h, fun _ _ h _ _ => h, fun _ h => .inl h, fun _ m o h hm => ⟨rfl, m, o, h, hm⟩, fun _ _ h => ⟨rfl, h, rfl, fun _ _ => rfl⟩⟩
theorem Step.kt {K : Fg} {F H F1 H1 : Hp} {σ σ1 : Sg} {ρ ρ1 : Rho} {fp fp1 : FP} (a : Step K F H σ ρ fp F1 H1 σ1 ρ1 fp1) {c : Addr} (z : KT H1 c) : H c = none ∨ (Owns fp c ∨ KT H c) := by
  by_cases hn : H c = none
  · exact .inl hn
  · by_cases ho : Owns fp c
    · exact .inr (.inl ho)
    · obtain ⟨u, hu⟩ := Option.ne_none_iff_exists'.mp hn
      by_cases ht : ∃ ps, u = .tbl ps
      · obtain ⟨ps, rfl⟩ := ht
        exact .inr (.inr (.inr ⟨ps, hu⟩))
      · have := a.frame c u hu ho fun ps e => ht ⟨ps, e⟩
        unfold KT at z
        rw [this, ← hu] at z
        exact .inr (.inr z)
theorem Step.trans {K : Fg} {F H F1 H1 F2 H2 : Hp} {σ σ1 σ2 : Sg} {ρ ρ1 ρ2 : Rho} {fp fp1 fp2 : FP} (a : Step K F H σ ρ fp F1 H1 σ1 ρ1 fp1) (b : Step K F1 H1 σ1 ρ1 fp1 F2 H2 σ2 ρ2 fp2) : Step K F H σ ρ fp F2 H2 σ2 ρ2 fp2 where
  env := b.env
  fr := a.fr.trans b.fr
  nf := fun c h h' => by
    by_cases q : F1 c = none
    · rcases b.nf c q h' with z | z | z
      · exact .inl (a.dom c z)
      · exact (a.own c z).symm.imp_right .inl
      · exact a.kt z
    · exact a.nf c h q
  dom := fun c h => a.dom c (b.dom c h)
  frame := fun c o h n nt => b.frame c o (a.frame c o h n nt) (fun z => (a.own c z).elim n fun q => by rw [h] at q; cases q) nt
  own := fun c h => by
    rcases b.own c h with z | z
    · exact a.own c z
    · exact .inr (a.dom c z)
  pin := fun i m o h hm => by
    obtain ⟨e1, m1, o1, h1, k1⟩ := a.pin i m o h hm
    obtain ⟨e2, m2, o2, h2, k2⟩ := b.pin i m1 o1 h1 k1
    exact ⟨e2.trans e1, m2, o2, h2, k2⟩
  lock := fun i o h => by
    obtain ⟨e1, h1, f1, g1⟩ := a.lock i o h
    obtain ⟨e2, h2, f2, g2⟩ := b.lock i o h1
    exact ⟨e2.trans e1, h2, f2.trans f1, fun b hb => (g2 b (by rw [f1]; exact hb)).trans (g1 b hb)⟩

structure EStep (K : Fg) (T : List Nat) (F H : Hp) (σ : Sg) (ρ : Rho) (fp : FP) (F' H' : Hp) (ρ' : Rho) (fp' : FP) : Prop where
  st : Step K F H σ ρ fp F' H' σ ρ' fp'
  ko : ∀ (i : Nat) m t, ρ[i]? = some (Sl.own m t) → ∃ t', ρ'[i]? = some (Sl.own m t')
  un : ∀ (i : Nat), i ∉ T → ρ'[i]? = ρ[i]? ∧ fp' i = fp i ∧ ∀ b ∈ fp i, H' b = H b
theorem EStep.refl {K : Fg} {T : List Nat} {F H : Hp} {σ : Sg} {ρ : Rho} {fp : FP} (e : EnvOk K F H σ ρ fp) : EStep K T F H σ ρ fp F H ρ fp := ⟨.refl e, fun _ _ o h => ⟨o, h⟩, fun _ _ => ⟨rfl, rfl, fun _ _ => rfl⟩⟩
theorem EStep.trans {K : Fg} {T : List Nat} {F H F1 H1 F2 H2 : Hp} {σ : Sg} {ρ ρ1 ρ2 : Rho} {fp fp1 fp2 : FP} (a : EStep K T F H σ ρ fp F1 H1 ρ1 fp1) (b : EStep K T F1 H1 σ ρ1 fp1 F2 H2 ρ2 fp2) : EStep K T F H σ ρ fp F2 H2 ρ2 fp2 :=
  ⟨a.st.trans b.st, fun i m o h => let ⟨o1, h1⟩ := a.ko i m o h; b.ko i m o1 h1, fun i hi => by
    obtain ⟨a1, a2, a3⟩ := a.un i hi
    obtain ⟨b1, b2, b3⟩ := b.un i hi
    exact ⟨b1.trans a1, b2.trans a2, fun c hc => (b3 c (by rw [a2]; exact hc)).trans (a3 c hc)⟩⟩
theorem EStep.env {K : Fg} {T : List Nat} {F H F1 H1 : Hp} {σ : Sg} {ρ ρ1 : Rho} {fp fp1 : FP} (a : EStep K T F H σ ρ fp F1 H1 ρ1 fp1) : EnvOk K F1 H1 σ ρ1 fp1 := a.st.env
theorem EStep.sub {K : Fg} {T T' : List Nat} {F H F1 H1 : Hp} {σ : Sg} {ρ ρ1 : Rho} {fp fp1 : FP} (a : EStep K T F H σ ρ fp F1 H1 ρ1 fp1) (h : ∀ i ∈ T, i ∈ T') : EStep K T' F H σ ρ fp F1 H1 ρ1 fp1 :=
  ⟨a.st, a.ko, fun i hi => a.un i fun z => hi (h i z)⟩

structure Grow (F H F' H' : Hp) : Prop where
  h : Same H H'
  f : Same F F'
  s : Same F' H'
  n : ∀ b, F b = none → F' b ≠ none → H b = none
theorem Grow.refl {F H : Hp} (s : Same F H) : Grow F H F H := ⟨Same.refl _, Same.refl _, s, fun _ h h' => absurd h h'⟩
theorem same_upd {H : Hp} {p : Addr} {o : HO} (h : H p = none) : Same H (upd H p o) := fun b u e => by rw [upd_ne (ne_of_none e h)]; exact e
theorem same_upd2 {F H : Hp} {p : Addr} {o : HO} (s : Same F H) : Same (upd F p o) (upd H p o) := fun b u e => by
  by_cases hb : b = p
  · subst hb; rw [upd_same] at e ⊢; exact e
  · rw [upd_ne hb] at e ⊢; exact s b u e
theorem Grow.new {F H : Hp} {p : Addr} (o : HO) (s : Same F H) (h : H p = none) : Grow F H (upd F p o) (upd H p o) :=
  ⟨same_upd h, same_upd (s.free h), same_upd2 s, fun b e e' => by
    by_cases hb : b = p
    · subst hb; exact h
    · rw [upd_ne hb] at e'; exact absurd e e'⟩
theorem Grow.lay {F H : Hp} {p : Addr} (o : HO) (s : Same F H) (h : H p = none) : Grow F H F (upd H p o) :=
  ⟨same_upd h, Same.refl _, s.trans (same_upd h), fun b e e' => absurd e e'⟩
theorem Grow.trans {F H F1 H1 F2 H2 : Hp} (a : Grow F H F1 H1) (b : Grow F1 H1 F2 H2) : Grow F H F2 H2 :=
  ⟨a.h.trans b.h, a.f.trans b.f, b.s, fun c e e' => by
    by_cases q : F1 c = none
    · exact a.h.free (b.n c q e')
    · exact a.n c e q⟩
theorem Grow.step {K : Fg} {T : List Nat} {F H F' H' : Hp} {σ : Sg} {ρ : Rho} {fp : FP} (e : EnvOk K F H σ ρ fp) (g : Grow F H F' H') : EStep K T F H σ ρ fp F' H' ρ fp := by
  have nF : ∀ a, F a = none → H a ≠ none → F' a = none := fun a h h' => by
    cases q : F' a with
    | none => rfl
    | some o => exact absurd (g.n a h (by rw [q]; exact fun z => nomatch z)) h'
  have sH : ∀ a, H a ≠ none → H' a = H a := fun a h => by
    cases q : H a with
    | none => exact absurd q h
    | some u => exact g.h a u q
  refine ⟨⟨⟨g.s, e.len, fun i s h => ?_, e.nil, e.nd, e.ap, e.tb.same g.f g.h g.n, e.al' (fun _ _ _ h => ⟨h, rfl⟩) fun i _ _ h => ⟨h, rfl, fun b hb => sH b (e.there ⟨i, hb⟩).1⟩⟩, g.f, fun b h h' => .inl (g.n b h h'), fun b h => g.h.free h, fun b o h _ _ => g.h b o h, fun b h => .inl h, fun i m o h hm => ⟨rfl, m, o, h, hm⟩, fun i o h => ⟨rfl, h, rfl, fun b hb => sH b (e.there ⟨i, hb⟩).1⟩⟩, fun i m o h => ⟨o, h⟩, fun i _ => ⟨rfl, rfl, fun b hb => sH b (e.there ⟨i, hb⟩).1⟩⟩
  have q := e.sl i s h
  cases s with
  | no => trivial
  | al _ _ => trivial
  | val d => obtain ⟨u, e1, e2⟩ := q; exact ⟨u, e1, dq_mono g.f _ _ e2⟩
  | own m o =>
    obtain ⟨u, e1, e2⟩ := q
    exact ⟨u, e1, e2.move g.f fun b hb => ⟨sH b (e2.mem b hb).1, nF b (e2.mem b hb).2 (e2.mem b hb).1⟩⟩

structure Grow2 (K : Fg) (F H F' H' : Hp) : Prop where
  h : ∀ b o, H b = some o → (∀ ps, o ≠ .tbl ps) → H' b = some o
  d : ∀ b, H' b = none → H b = none
  f : Same F F'
  s : Same F' H'
  n : ∀ b, F b = none → F' b ≠ none → H b = none ∨ KT H b
  t : TbOk K F' H'
theorem Grow2.refl {K : Fg} {F H : Hp} (s : Same F H) (t : TbOk K F H) : Grow2 K F H F H := ⟨fun _ _ h _ => h, fun _ h => h, Same.refl _, s, fun _ h h' => absurd h h', t⟩
theorem Grow2.step {K : Fg} {T : List Nat} {F H F' H' : Hp} {σ : Sg} {ρ : Rho} {fp : FP} (e : EnvOk K F H σ ρ fp) (g : Grow2 K F H F' H') : EStep K T F H σ ρ fp F' H' ρ fp := by
  have nF : ∀ a, F a = none → H a ≠ none → ¬ KT H a → F' a = none := fun a h h' hk => by
    cases q : F' a with
    | none => rfl
    | some o => exact ((g.n a h (by rw [q]; exact fun z => nomatch z)).elim h' hk).elim
  have sH : ∀ a, Owns fp a → H' a = H a := fun a h => by
    cases q : H a with
    | none => exact absurd q (e.there h).1
    | some u => exact g.h a u q fun ps z => e.ntb h ps (z ▸ q)
  refine ⟨⟨⟨g.s, e.len, fun i s h => ?_, e.nil, e.nd, e.ap, g.t, e.al' (fun _ _ _ h => ⟨h, rfl⟩) fun i _ _ h => ⟨h, rfl, fun b hb => sH b ⟨i, hb⟩⟩⟩, g.f, fun b h h' => (g.n b h h').imp_right .inr, fun b h => g.d b h, fun b o h _ nt => g.h b o h nt, fun b h => .inl h, fun i m o h hm => ⟨rfl, m, o, h, hm⟩, fun i o h => ⟨rfl, h, rfl, fun b hb => sH b ⟨i, hb⟩⟩⟩, fun i m o h => ⟨o, h⟩, fun i _ => ⟨rfl, rfl, fun b hb => sH b ⟨i, hb⟩⟩⟩
  have q := e.sl i s h
  cases s with
  | no => trivial
  | al _ _ => trivial
  | val d => obtain ⟨u, e1, e2⟩ := q; exact ⟨u, e1, dq_mono g.f _ _ e2⟩
  | own m o =>
    obtain ⟨u, e1, e2⟩ := q
    exact ⟨u, e1, e2.move g.f fun b hb => ⟨sH b ⟨i, hb⟩, nF b (e2.mem b hb).2 (e2.mem b hb).1 (e2.nkt b hb)⟩⟩

inductive Rv where
  | d (x : PyData)
  | o (i : Nat)
noncomputable def RvOk (K : Fg) (F : Hp) (σ : Sg) (ρ : Rho) (v : V) : Rv → Prop
  | .d x => Dq K F v x
  | .o i => sg σ i = some v ∧ ∃ m t, ρ[i]? = some (Sl.own m t)
theorem RvOk.step {K : Fg} {T : List Nat} {F H F1 H1 : Hp} {σ : Sg} {ρ ρ1 : Rho} {fp fp1 : FP} {v : V} (a : EStep K T F H σ ρ fp F1 H1 ρ1 fp1) : ∀ {r : Rv}, RvOk K F σ ρ v r → RvOk K F1 σ ρ1 v r
  | .d _, h => dq_mono a.st.fr _ _ h
  | .o i, ⟨h, m, ob, e⟩ => ⟨h, let ⟨o', e'⟩ := a.ko i m ob e; ⟨m, o', e'⟩⟩
inductive RvsOk (K : Fg) (F : Hp) (σ : Sg) (ρ : Rho) : List V → List Rv → Prop
  | nil : RvsOk K F σ ρ [] []
  | cons {v vs r rs} : RvOk K F σ ρ v r → RvsOk K F σ ρ vs rs → RvsOk K F σ ρ (v :: vs) (r :: rs)
theorem RvsOk.step {K : Fg} {T : List Nat} {F H F1 H1 : Hp} {σ : Sg} {ρ ρ1 : Rho} {fp fp1 : FP} (a : EStep K T F H σ ρ fp F1 H1 ρ1 fp1) : ∀ {vs : List V} {rs : List Rv}, RvsOk K F σ ρ vs rs → RvsOk K F1 σ ρ1 vs rs
  | _, _, .nil => .nil
  | _, _, .cons h t => .cons (h.step a) (RvsOk.step a t)
structure NewOk (K : Fg) (H : Hp) (fp : FP) (F' H' : Hp) (fp' : FP) (v : V) (t : Tr) (A : List Addr) : Prop where
  ok : TrOk K F' H' v t A
  nd : A.Nodup
  new : ∀ b ∈ A, H b = none ∨ Owns fp b
  out : ∀ b ∈ A, ¬ Owns fp' b

inductive Er (α : Type) where
  | ok (a : α) (ρ : Rho)
  | ex (c : Str) (ρ : Rho)
noncomputable abbrev M (α : Type) := Rho → Option (Er α)
noncomputable def bnd {α β : Type} (f : M α) (k : α → M β) : M β := fun ρ => match f ρ with
  | some (.ok a ρ1) => k a ρ1
  | some (.ex c ρ1) => some (.ex c ρ1)
  | none => none
noncomputable def ret {α : Type} (a : α) : M α := fun ρ => some (.ok a ρ)
noncomputable abbrev WV := Str → Sg → Hp → Prop
structure Rl (K : Fg) (α β : Type) where
  r : Hp → FP → Hp → Hp → FP → Sg → Rho → β → α → Prop
  back : ∀ {T F H F1 H1 F2 H2 σ ρ ρ1 ρ2 fp fp1 fp2 b a}, EStep K T F H σ ρ fp F1 H1 ρ1 fp1 → r H1 fp1 F2 H2 fp2 σ ρ2 b a → r H fp F2 H2 fp2 σ ρ2 b a
noncomputable def Pst {α β : Type} {K : Fg} (T : List Nat) (W : WV) (R : Rl K α β) (F H : Hp) (σ : Sg) (ρ : Rho) (fp : FP) (Q : β → Hp → Prop) : Er α → Prop
  | .ok a ρ' => ∀ b H' F' fp', EStep K T F H σ ρ fp F' H' ρ' fp' → R.r H fp F' H' fp' σ ρ' b a → Q b H'
  | .ex c ρ' => ∀ H' F' fp', EStep K T F H σ ρ fp F' H' ρ' fp' → W c σ H'
noncomputable def TVg {α β : Type} {K : Fg} (T : List Nat) (W : WV) (R : Rl K α β) (f : M α) (σ : Sg) (H : Hp) (Q : β → Hp → Prop) : Prop :=
  ∃ F ρ fp o, EnvOk K F H σ ρ fp ∧ f ρ = some o ∧ Pst T W R F H σ ρ fp Q o
theorem Pst.step {α β : Type} {K : Fg} {T T' : List Nat} {W : WV} {R : Rl K α β} {F H F1 H1 : Hp} {σ : Sg} {ρ ρ1 : Rho} {fp fp1 : FP} {Q : β → Hp → Prop} (a : EStep K T F H σ ρ fp F1 H1 ρ1 fp1) (hT : ∀ i ∈ T, i ∈ T') :
    ∀ {o : Er α}, Pst T' W R F H σ ρ fp Q o → Pst T' W R F1 H1 σ ρ1 fp1 Q o
  | .ok _ _, h => fun b H' F' fp' e r => h b H' F' fp' ((a.sub hT).trans e) (R.back a r)
  | .ex _ _, h => fun H' F' fp' e => h H' F' fp' ((a.sub hT).trans e)
theorem tv_bnd {α β γ δ : Type} {K : Fg} {T T' : List Nat} {W : WV} {R : Rl K α β} {R2 : Rl K γ δ} {f : M α} {k : α → M γ} {F H : Hp} {σ : Sg} {ρ : Rho} {fp : FP} {o : Er γ} {Q : δ → Hp → Prop} {Q1 : β → Hp → Prop}
    (E : EnvOk K F H σ ρ fp) (e : bnd f k ρ = some o) (P : Pst T' W R2 F H σ ρ fp Q o) (hT : ∀ i ∈ T, i ∈ T')
    (hk : ∀ a ρ1 b H1 F1 fp1, EStep K T F H σ ρ fp F1 H1 ρ1 fp1 → R.r H fp F1 H1 fp1 σ ρ1 b a → k a ρ1 = some o → Pst T' W R2 F1 H1 σ ρ1 fp1 Q o → Q1 b H1) : TVg T W R f σ H Q1 := by
  unfold bnd at e
  cases q : f ρ with
  | none => rw [q] at e; cases e
  | some r =>
    rw [q] at e
    cases r with
    | ok a ρ1 => exact ⟨F, ρ, fp, _, E, q, fun b H1 F1 fp1 st r => hk a ρ1 b H1 F1 fp1 st r e (P.step st hT)⟩
    | ex c ρ1 =>
      cases e
      exact ⟨F, ρ, fp, _, E, q, fun H1 F1 fp1 st => P H1 F1 fp1 (st.sub hT)⟩
noncomputable def rlV (K : Fg) : Rl K Rv V := ⟨fun _ _ F' _ _ σ ρ' v r => RvOk K F' σ ρ' v r, fun _ h => h⟩
noncomputable def rlA (K : Fg) : Rl K (List Rv) (List V) := ⟨fun _ _ F' _ _ σ ρ' v r => RvsOk K F' σ ρ' v r, fun _ h => h⟩
noncomputable def rlT (K : Fg) : Rl K Bool Bool := ⟨fun _ _ _ _ _ _ _ v r => v = r, fun _ h => h⟩
noncomputable def rlN (K : Fg) : Rl K Tr V := ⟨fun H fp F' H' fp' _ _ v t => ∃ A, NewOk K H fp F' H' fp' v t A, fun e h => by
  obtain ⟨A, h⟩ := h
  refine ⟨A, h.ok, h.nd, fun b hb => ?_, h.out⟩
  rcases h.new b hb with z | z
  · exact .inl (e.st.dom b z)
  · exact (e.st.own b z).symm⟩
noncomputable abbrev tV (K : Fg) (T : List Nat) (W : WV) (f : M Rv) : TE := fun σ H Q => TVg T W (rlV K) f σ H Q
noncomputable abbrev tVN (K : Fg) (T : List Nat) (W : WV) (f : M Tr) : TE := fun σ H Q => TVg T W (rlN K) f σ H Q
noncomputable abbrev tVT (K : Fg) (T : List Nat) (W : WV) (f : M Bool) : TT := fun σ H Q => TVg T W (rlT K) f σ H Q
noncomputable abbrev tVA (K : Fg) (T : List Nat) (W : WV) (f : M (List Rv)) : TA := fun σ H Q => TVg T W (rlA K) f σ H Q
noncomputable def VE (X : Cx) (T : List Nat) (W : WV) (e : Expr) (f : M Rv) : Prop := PE X e (tV X.K T W f)
noncomputable def VN (X : Cx) (T : List Nat) (W : WV) (e : Expr) (f : M Tr) : Prop := PE X e (tVN X.K T W f)
noncomputable def VT (X : Cx) (T : List Nat) (W : WV) (e : Expr) (f : M Bool) : Prop := PT X e (tVT X.K T W f)
noncomputable def VW (X : Cx) (T : List Nat) (W : WV) (e : Expr) (f : M Bool) : Prop := PW X e (tVT X.K T W f)
noncomputable def VA (X : Cx) (T : List Nat) (W : WV) (es : List Expr) (f : M (List Rv)) : Prop := PA X es (tVA X.K T W f)
theorem pe_imp {X : Cx} {e : Expr} {t t' : TE} (h : PE X e t) (i : ∀ σ H Q, t' σ H Q → t σ H Q) : PE X e t' := ⟨fun pins s σ H Q I q => h.run pins s σ H Q I (i σ H Q q)⟩
theorem pt_imp {X : Cx} {e : Expr} {t t' : TT} (h : PT X e t) (i : ∀ σ H Q, t' σ H Q → t σ H Q) : PT X e t' := ⟨fun pins s σ H Q I q => h.run pins s σ H Q I (i σ H Q q)⟩
theorem pw_imp {X : Cx} {e : Expr} {t t' : TT} (h : PW X e t) (i : ∀ σ H Q, t' σ H Q → t σ H Q) : PW X e t' := ⟨fun wh pins s σ H Q I q => h.run wh pins s σ H Q I (i σ H Q q)⟩
theorem pa_imp {X : Cx} {e : List Expr} {t t' : TA} (h : PA X e t) (i : ∀ σ H Q, t' σ H Q → t σ H Q) : PA X e t' := ⟨fun pos pins s σ H Q I q => h.run pos pins s σ H Q I (i σ H Q q)⟩
theorem ps_imp {X : Cx} {e : Stmt} {t t' : TS} (h : PS X e t) (i : ∀ D σ H, t' D σ H → t D σ H) : PS X e t' := ⟨fun pins s σ H D I q => h.run pins s σ H D I (i D σ H q)⟩
theorem pss_imp {X : Cx} {e : List Stmt} {t t' : TS} (h : PSs X e t) (i : ∀ D σ H, t' D σ H → t D σ H) : PSs X e t' := ⟨fun pins s σ H D I q => h.run pins s σ H D I (i D σ H q)⟩

noncomputable def der (ρ : Rho) : Rv → Option PyData
  | .d x => some x
  | .o i => match ρ[i]? with
    | some (.own _ t) => t.toD
    | _ => none
noncomputable def flat : List Tr → Option (List PyData)
  | [] => some []
  | .dat d :: ts => (flat ts).map (d :: ·)
  | _ :: _ => none
noncomputable def derS (ρ : Rho) : Rv → Option PyData
  | .d x => some x
  | .o i => match ρ[i]? with
    | some (.own _ (.lst ts)) => (flat ts).map .list
    | _ => none
theorem flat_ok : ∀ {ts : List Tr} {ds : List PyData}, flat ts = some ds → ts = ds.map .dat
  | [], _, e => by simp only [flat] at e; cases e; rfl
  | .dat d :: ts, ds, e => by
    simp only [flat] at e
    cases z : flat ts with
    | none => rw [z] at e; cases e
    | some es => rw [z] at e; cases e; rw [flat_ok z]; rfl
  | .tup _ :: _, _, e => by simp [flat] at e
  | .lst _ :: _, _, e => by simp [flat] at e
  | .dk _ :: _, _, e => by simp [flat] at e
  | .dt _ :: _, _, e => by simp [flat] at e
  | .ins _ _ :: _, _, e => by simp [flat] at e
  | .fk _ :: _, _, e => by simp [flat] at e
  | .ft _ :: _, _, e => by simp [flat] at e
  | .raw _ :: _, _, e => by simp [flat] at e
  | .sd _ :: _, _, e => by simp [flat] at e
  | .hole :: _, _, e => by simp [flat] at e
theorem flat_dat : ∀ ds : List PyData, flat (ds.map .dat) = some ds
  | [] => rfl
  | d :: ds => by simp [flat, flat_dat ds]
theorem der_ok {K : Fg} {F H : Hp} {σ : Sg} {ρ : Rho} {fp : FP} {v : V} {d : PyData} (E : EnvOk K F H σ ρ fp) : ∀ {r : Rv}, RvOk K F σ ρ v r → der ρ r = some d → Dq K H v d
  | .d x, h, e => by simp only [der] at e; cases e; exact dq_mono E.sub _ _ h
  | .o i, ⟨h, m, t, e⟩, q => by
    simp only [der, e] at q
    obtain ⟨u, e1, e2⟩ := E.sl i _ e
    rw [h] at e1
    cases e1
    exact e2.dp E.sub (fun _ _ => rfl) q
noncomputable def DpS (K : Fg) (F H : Hp) (v : V) (d : PyData) : Prop := Dq K F v d ∨ ∃ a vs ds, v = .ref a ∧ d = .list ds ∧ H a = some (.lst vs) ∧ DqAll K F vs ds
theorem derS_ok {K : Fg} {F H : Hp} {σ : Sg} {ρ : Rho} {fp : FP} {v : V} {d : PyData} (E : EnvOk K F H σ ρ fp) : ∀ {r : Rv}, RvOk K F σ ρ v r → derS ρ r = some d → DpS K F H v d
  | .d x, h, e => by simp only [derS] at e; cases e; exact .inl h
  | .o i, ⟨h, m, t, e⟩, q => by
    simp only [derS, e] at q
    obtain ⟨u, e1, e2⟩ := E.sl i _ e
    rw [h] at e1
    cases e1
    cases t with
    | lst ts =>
      cases z : flat ts with
      | none => simp only [z] at q; cases q
      | some ds =>
        simp only [z] at q
        cases q
        have := flat_ok z
        subst this
        generalize fp i = A at e2
        cases e2 with
        | lst h1 h2 h3 =>
          obtain ⟨_, h4⟩ := trs_dat' h3
          exact .inr ⟨_, _, ds, rfl, rfl, h1, h4⟩
    | _ => cases q
theorem DpS.dp {K : Fg} {F H : Hp} {v : V} {d : PyData} (s : Same F H) (h : DpS K F H v d) : Dq K H v d := by
  rcases h with h | ⟨a, vs, ds, rfl, rfl, h1, h2⟩
  · exact dq_mono s _ _ h
  · exact .lst (.inl h1) (dqAll_mono s _ _ h2)
theorem DpS.list {K : Fg} {F H : Hp} {v : V} {ds : List PyData} (s : Same F H) (h : DpS K F H v (.list ds)) : ∃ a vs, v = .ref a ∧ Rd H a (.lst vs) ∧ DqAll K F vs ds := by
  rcases h with h | ⟨a, vs, ds', rfl, e, h1, h2⟩
  · cases h with
    | lst hs ha => exact ⟨_, _, rfl, rd_mono s hs, ha⟩
  · cases e; exact ⟨a, vs, rfl, .inl h1, h2⟩
theorem DpS.tup {K : Fg} {F H : Hp} {v : V} {ds : List PyData} (s : Same F H) (h : DpS K F H v (.tuple ds)) : ∃ a vs, v = .ref a ∧ SqT K H a vs ∧ DqAll K F vs ds ∧ Dq K F v (.tuple ds) := by
  rcases h with h | ⟨a, vs, ds', rfl, e, h1, h2⟩
  · cases h with
    | tups hs ha => exact ⟨_, _, rfl, (hs.mono s).sq, ha, .tups hs ha⟩
  · cases e
theorem DpS.int {K : Fg} {F H : Hp} {v : V} {i : Int} (h : DpS K F H v (.int i)) : v = .int i := by
  rcases h with h | ⟨a, vs, ds', rfl, e, h1, h2⟩
  · cases h; rfl
  · cases e
theorem DpS.bl {K : Fg} {F H : Hp} {v : V} {i : Bool} (h : DpS K F H v (.bool i)) : v = .bl i := by
  rcases h with h | ⟨a, vs, ds', rfl, e, h1, h2⟩
  · cases h; rfl
  · cases e
theorem DpS.str {K : Fg} {F H : Hp} {v : V} {i : Str} (h : DpS K F H v (.str i)) : v = .str i := by
  rcases h with h | ⟨a, vs, ds', rfl, e, h1, h2⟩
  · cases h; rfl
  · cases e
theorem DpS.non {K : Fg} {F H : Hp} {v : V} (h : DpS K F H v .none) : v = .non := by
  rcases h with h | ⟨a, vs, ds', rfl, e, h1, h2⟩
  · cases h; rfl
  · cases e
end VL

end

section
set_option Elab.async false
set_option linter.all false
set_option maxRecDepth 100000
namespace VL
open PySem PySem.Spec PyProof.Rows L2

section
variable {X : Cx} {T T1 T2 T3 : List Nat} {W : WV}
theorem ok_inj {α : Type} {a : α} {ρ : Rho} {o : Er α} (h : some (Er.ok a ρ) = some o) : o = .ok a ρ := (Option.some.inj h).symm

noncomputable def cD (x : PyData) : M Rv := ret (.d x)
theorem ve_int {i j pos} : VE X [] W (.Constant (.int i) j pos) (cD (.int i)) := pe_imp pe_int fun σ H Q ⟨F, ρ, fp, o, E, e, P⟩ => by
  cases ok_inj e
  exact P _ H F fp (.refl E) (.int i)
theorem ve_bl {i j pos} : VE X [] W (.Constant (.bool i) j pos) (cD (.bool i)) := pe_imp pe_bl fun σ H Q ⟨F, ρ, fp, o, E, e, P⟩ => by
  cases ok_inj e
  exact P _ H F fp (.refl E) (.bl i)
theorem ve_str {i j pos} : VE X [] W (.Constant (.str i) j pos) (cD (.str i)) := pe_imp pe_str fun σ H Q ⟨F, ρ, fp, o, E, e, P⟩ => by
  cases ok_inj e
  exact P _ H F fp (.refl E) (.str i)
theorem ve_strC {i k : Str} (h : i = k) {j pos} : VE X [] W (.Constant (.str i) j pos) (cD (.str k)) := by
  subst h
  exact ve_str
noncomputable def cVar (i : Nat) : M Rv := fun ρ => match ρ[i]? with
  | some (.val d) => some (.ok (.d d) ρ)
  | some (.own _ (.dat d)) => some (.ok (.d d) ρ)
  | some (.own _ _) => some (.ok (.o i) ρ)
  | _ => none
theorem ve_var (i : Nat) {x : Str} {pos : Pos} (hN : X.N[i]? = some x := by rfl) (hv : Vis X.env.scope x := by first | exact Or.inl rfl | exact Or.inr (Or.inl rfl) | exact Or.inr (Or.inr rfl)) (hd : (x == ("__debug__" : Str)) = false := by decide)
    (hcd : (x == ("__classdict__" : Str)) = false := by decide) : VE X [] W (.Name x pos) (cVar i) := by
  refine pe_imp (pe_var hN hv hd hcd) fun σ H Q ⟨F, ρ, fp, o, E, e, P⟩ => ?_
  unfold cVar at e
  split at e
  · rename_i d h
    cases ok_inj e
    obtain ⟨u, hu, q⟩ := E.sl i _ h
    exact ⟨u, sg_some.mp hu, P u H F fp (.refl E) q⟩
  · rename_i m d h
    cases ok_inj e
    obtain ⟨u, hu, q⟩ := E.sl i _ h
    generalize fp i = A at q
    cases q with
    | dat q => exact ⟨u, sg_some.mp hu, P u H F fp (.refl E) q⟩
  · rename_i m t _ h
    cases ok_inj e
    obtain ⟨u, hu, q⟩ := E.sl i _ h
    exact ⟨u, sg_some.mp hu, P u H F fp (.refl E) ⟨hu, m, t, h⟩⟩
  · cases e
theorem ve_glob {x : Str} {d : PyData} {v : V} {u : Value} {pos : Pos} (hg : Gl X x) (hm : X.mg x = some u) (r : RelV v u) (hd : ∀ F, Dq X.K F v d) (hdb : (x == ("__debug__" : Str)) = false := by decide) : VE X [] W (.Name x pos) (cD d) :=
  pe_imp (pe_glob hg hm r hdb) fun σ H Q ⟨F, ρ, fp, o, E, e, P⟩ => by
    cases ok_inj e
    exact P _ H F fp (.refl E) (hd F)

noncomputable def OpOk (K : Fg) (r : R2) (g : PyData → PyData → Option PyData) : Prop := ∀ F H x y dx dy z Q, Same F H → DpS K F H x dx → DpS K F H y dy → g dx dy = some z → (∀ v F' H', Grow F H F' H' → Dq K F' v z → Q v H') → r x y H Q
noncomputable def bin1 (g : PyData → PyData → Option PyData) (x y : Rv) : M Rv := fun ρ => match derS ρ x, derS ρ y with
  | some a, some b => (match g a b with
    | some z => some (.ok (.d z) ρ)
    | none => none)
  | _, _ => none
noncomputable def cBin (g : PyData → PyData → Option PyData) (fa fb : M Rv) : M Rv := bnd fa fun x => bnd fb fun y => bin1 g x y
variable {fa fb fc : M Rv} {g : PyData → PyData → Option PyData} {r r' : R2} {a b c : Expr} {pos : Pos}
theorem tv_bin {σ : Sg} {H : Hp} {Q : VK} (hg : OpOk X.K r g) (h : tV X.K (T1 ++ T2) W (cBin g fa fb) σ H Q) : tOp r (tV X.K T1 W fa) (tV X.K T2 W fb) σ H Q := by
  obtain ⟨F, ρ, fp, o, E, e, P⟩ := h
  refine tv_bnd E e P (fun i hi => List.mem_append_left _ hi) fun x ρ1 v H1 F1 fp1 s1 r1 e1 P1 => ?_
  refine tv_bnd s1.env e1 P1 (fun i hi => List.mem_append_right _ hi) fun y ρ2 w H2 F2 fp2 s2 r2 e2 P2 => ?_
  unfold bin1 at e2
  split at e2
  · rename_i p q hp hq
    split at e2
    · rename_i z hz
      cases ok_inj e2
      exact hg F2 H2 v w p q z Q s2.env.sub (derS_ok s2.env (RvOk.step s2 r1) hp) (derS_ok s2.env r2 hq) hz fun v' F3 H3 gr dp => P2 v' H3 F3 fp2 (gr.step s2.env) dp
    · cases e2
  · cases e2
theorem ve_bin {op : Operator} (ho : OpR X (binaryOp op) r) (hg : OpOk X.K r g) (ha : VE X T1 W a fa) (hb : VE X T2 W b fb) : VE X (T1 ++ T2) W (.BinOp a op b pos) (cBin g fa fb) :=
  pe_imp (pe_op ho ha hb) fun σ H Q h => tv_bin hg h
noncomputable def OpOkD (K : Fg) (r : R2) (g : PyData → PyData → Option Bool) : Prop := ∀ H x y dx dy z (Q : VK), Dq K H x dx → Dq K H y dy → g dx dy = some z → Q (.bl z) H → r x y H Q
noncomputable def binD (g : PyData → PyData → Option Bool) (x y : Rv) : M Bool := fun ρ => match der ρ x, der ρ y with
  | some a, some b => (match g a b with
    | some z => some (.ok z ρ)
    | none => none)
  | _, _ => none
noncomputable def cCmp (g : PyData → PyData → Option Bool) (fa fb : M Rv) : M Bool := bnd fa fun x => bnd fb fun y => binD g x y
noncomputable def cOf (f : M Bool) : M Rv := bnd f fun b => ret (.d (.bool b))
variable {gd gd' : PyData → PyData → Option Bool} {fA fB : M Bool}
theorem tv_cmp {σ : Sg} {H : Hp} {Q : Bool → Hp → Prop} (hg : OpOkD X.K r gd) (h : tVT X.K (T1 ++ T2) W (cCmp gd fa fb) σ H Q) : tTest (tOp r (tV X.K T1 W fa) (tV X.K T2 W fb)) σ H Q := by
  obtain ⟨F, ρ, fp, o, E, e, P⟩ := h
  refine tv_bnd E e P (fun i hi => List.mem_append_left _ hi) fun x ρ1 v H1 F1 fp1 s1 r1 e1 P1 => ?_
  refine tv_bnd s1.env e1 P1 (fun i hi => List.mem_append_right _ hi) fun y ρ2 w H2 F2 fp2 s2 r2 e2 P2 => ?_
  unfold binD at e2
  split at e2
  · rename_i p q hp hq
    split at e2
    · rename_i z hz
      cases ok_inj e2
      exact hg H2 v w p q z _ (der_ok s2.env (RvOk.step s2 r1) hp) (der_ok s2.env r2 hq) hz ⟨z, rfl, P2 z H2 F2 fp2 (.refl s2.env) rfl⟩
    · cases e2
  · cases e2
theorem vt_cmp {op : CmpOp} (ho : OpR X (compareOp op) r) (hg : OpOkD X.K r gd) (ha : VE X T1 W a fa) (hb : VE X T2 W b fb) (hm : behindInMarks op b = false) : VT X (T1 ++ T2) W (.Compare a [op] [b] pos) (cCmp gd fa fb) :=
  pt_imp (pt_cmpR ho ha hb hm) fun σ H Q h => tv_cmp hg h
theorem of_cOf {K : Fg} {f : M Bool} {σ : Sg} {H : Hp} {Q : VK} (h : tV K T W (cOf f) σ H Q) : tVT K T W f σ H fun b H1 => Q (.bl b) H1 := by
  obtain ⟨F, ρ, fp, o, E, e, P⟩ := h
  refine tv_bnd E e P (fun i hi => hi) fun x ρ1 v H1 F1 fp1 s1 r1 e1 P1 => ?_
  cases ok_inj e1
  have r1 : v = x := r1
  subst r1
  exact P1 _ H1 F1 fp1 (.refl s1.env) (.bl v)
theorem ve_cmp {op : CmpOp} (ho : OpR X (compareOp op) r) (hg : OpOkD X.K r gd) (ha : VE X T1 W a fa) (hb : VE X T2 W b fb) (hm : behindInMarks op b = false) : VE X (T1 ++ T2) W (.Compare a [op] [b] pos) (cOf (cCmp gd fa fb)) := by
  refine pe_imp (pe_cmpR ho ha hb hm) fun σ H Q h => ?_
  obtain ⟨F, ρ, fp, o, E, e, P⟩ := of_cOf h
  refine tv_bnd E e P (fun i hi => List.mem_append_left _ hi) fun x ρ1 v H1 F1 fp1 s1 r1 e1 P1 => ?_
  refine tv_bnd s1.env e1 P1 (fun i hi => List.mem_append_right _ hi) fun y ρ2 w H2 F2 fp2 s2 r2 e2 P2 => ?_
  unfold binD at e2
  split at e2
  · rename_i p q hp hq
    split at e2
    · rename_i z hz
      cases ok_inj e2
      exact hg H2 v w p q z _ (der_ok s2.env (RvOk.step s2 r1) hp) (der_ok s2.env r2 hq) hz (P2 z H2 F2 fp2 (.refl s2.env) rfl)
    · cases e2
  · cases e2
noncomputable def cChain (g g' : PyData → PyData → Option Bool) (fa fb fc : M Rv) : M Bool := bnd fa fun x => bnd fb fun y => bnd (binD g x y) fun k => if k then bnd fc fun z => binD g' y z else ret false
noncomputable def asB (ρ : Rho) (x : Rv) : Option Bool := match der ρ x with
  | some (.bool b) => some b
  | _ => none
noncomputable def cTest (f : M Rv) : M Bool := bnd f fun x => fun ρ => match asB ρ x with
  | some b => some (.ok b ρ)
  | none => none
theorem tv_test {σ : Sg} {H : Hp} {Q : Bool → Hp → Prop} (h : tVT X.K T W (cTest fa) σ H Q) : TVg T W (rlV X.K) fa σ H fun x H1 => ∃ c, x = V.bl c ∧ Q c H1 := by
  obtain ⟨F, ρ, fp, o, E, e, P⟩ := h
  refine tv_bnd E e P (fun i hi => hi) fun x ρ1 v H1 F1 fp1 s1 r1 e1 P1 => ?_
  split at e1
  · rename_i b hb
    cases ok_inj e1
    unfold asB at hb
    split at hb
    · rename_i b' hd
      cases hb
      have q := der_ok s1.env r1 hd
      cases q
      exact ⟨_, rfl, P1 _ H1 F1 fp1 (.refl s1.env) rfl⟩
    · cases hb
  · cases e1
theorem vt_val (ha : VE X T W a fa) (he : ∀ whole, isTrue a X.env whole = (do let v ← whole; standAt a.pos; holding [v] (truthy v)) := by intro _; rfl) : VT X T W a (cTest fa) :=
  pt_imp (pt_val ha he) fun σ H Q h => tv_test h
noncomputable def cNot (f : M Bool) : M Bool := bnd f fun b => ret (!b)
noncomputable def cAnd (f g : M Bool) : M Bool := bnd f fun b => if b then g else ret false
noncomputable def cOr (f g : M Bool) : M Bool := bnd f fun b => if b then ret true else g
variable {rest : List Expr}
theorem vw_and1 (ha : VT X T W a fA) : VW X T W (.BoolOp .And [a] pos) fA := pw_and1 ha
theorem vw_or1 (ha : VT X T W a fA) : VW X T W (.BoolOp .Or [a] pos) fA := pw_or1 ha
theorem vw_and (ha : VT X T1 W a fA) (hb : VW X T2 W (.BoolOp .And (b :: rest) pos) fB) : VW X (T1 ++ T2) W (.BoolOp .And (a :: b :: rest) pos) (cAnd fA fB) :=
  pw_imp (pw_and ha hb) fun σ H Q ⟨F, ρ, fp, o, E, e, P⟩ => by
    refine tv_bnd E e P (fun i hi => List.mem_append_left _ hi) fun x ρ1 v H1 F1 fp1 s1 r1 e1 P1 => ?_
    have r1 : v = x := r1
    subst r1
    cases v with
    | true =>
      rw [if_pos rfl] at e1 ⊢
      refine ⟨F1, ρ1, fp1, o, s1.env, e1, ?_⟩
      cases o with
      | ok a ρ' => exact fun b' H' F' fp' s r => P1 b' H' F' fp' (s.sub fun i hi => List.mem_append_right _ hi) r
      | ex c ρ' => exact fun H' F' fp' s => P1 H' F' fp' (s.sub fun i hi => List.mem_append_right _ hi)
    | false =>
      rw [if_neg Bool.false_ne_true] at e1 ⊢
      cases ok_inj e1
      exact P1 _ H1 F1 fp1 (.refl s1.env) rfl
theorem vw_or (ha : VT X T1 W a fA) (hb : VW X T2 W (.BoolOp .Or (b :: rest) pos) fB) : VW X (T1 ++ T2) W (.BoolOp .Or (a :: b :: rest) pos) (cOr fA fB) :=
  pw_imp (pw_or ha hb) fun σ H Q ⟨F, ρ, fp, o, E, e, P⟩ => by
    refine tv_bnd E e P (fun i hi => List.mem_append_left _ hi) fun x ρ1 v H1 F1 fp1 s1 r1 e1 P1 => ?_
    have r1 : v = x := r1
    subst r1
    cases v with
    | false =>
      rw [if_neg Bool.false_ne_true] at e1 ⊢
      refine ⟨F1, ρ1, fp1, o, s1.env, e1, ?_⟩
      cases o with
      | ok a ρ' => exact fun b' H' F' fp' s r => P1 b' H' F' fp' (s.sub fun i hi => List.mem_append_right _ hi) r
      | ex c ρ' => exact fun H' F' fp' s => P1 H' F' fp' (s.sub fun i hi => List.mem_append_right _ hi)
    | true =>
      rw [if_pos rfl] at e1 ⊢
      cases ok_inj e1
      exact P1 _ H1 F1 fp1 (.refl s1.env) rfl
theorem vw_pt (h : VW X T W a fA) : VT X T W a fA := PW.pt h
noncomputable def cAndV (f : M Rv) (g : M Rv) : M Rv := bnd (cTest f) fun b => if b then g else ret (.d (.bool false))
noncomputable def cOrV (f : M Rv) (g : M Rv) : M Rv := bnd (cTest f) fun b => if b then ret (.d (.bool true)) else g
noncomputable def cNotV (f : M Rv) : M Rv := bnd (cTest f) fun b => ret (.d (.bool (!b)))
noncomputable def cIf {α : Type} (c : M Bool) (f g : M α) : M α := bnd c fun b => if b then f else g
noncomputable def aNil : M (List Rv) := ret []
noncomputable def aCons (f : M Rv) (g : M (List Rv)) : M (List Rv) := bnd f fun x => bnd g fun xs => ret (x :: xs)
variable {es : List Expr} {e : Expr} {fs : M (List Rv)}
theorem va_nil : VA X [] W [] aNil := pa_imp pa_nil fun σ H Q ⟨F, ρ, fp, o, E, e, P⟩ => by
  cases ok_inj e
  exact P _ H F fp (.refl E) .nil
theorem va_cons (ha : VE X T1 W e fa) (hb : VA X T2 W es fs) (hs : starEach (e :: es) X.env = (false, eval e X.env) :: starEach es X.env := by rfl) : VA X (T1 ++ T2) W (e :: es) (aCons fa fs) :=
  pa_imp (pa_cons ha hb hs) fun σ H Q ⟨F, ρ, fp, o, E, e, P⟩ => by
    refine tv_bnd E e P (fun i hi => List.mem_append_left _ hi) fun x ρ1 v H1 F1 fp1 s1 r1 e1 P1 => ?_
    refine tv_bnd s1.env e1 P1 (fun i hi => List.mem_append_right _ hi) fun y ρ2 w H2 F2 fp2 s2 r2 e2 P2 => ?_
    cases ok_inj e2
    exact P2 _ H2 F2 fp2 (.refl s2.env) (.cons (RvOk.step s2 r1) r2)
noncomputable def datas : List Rv → Option (List PyData)
  | [] => some []
  | .d x :: rs => (datas rs).map (x :: ·)
  | .o _ :: _ => none
theorem datas_ok {K : Fg} {F : Hp} {σ : Sg} {ρ : Rho} : ∀ {vs : List V} {rs : List Rv} {ds : List PyData}, RvsOk K F σ ρ vs rs → datas rs = some ds → DqAll K F vs ds
  | _, _, _, .nil, e => by simp only [datas] at e; cases e; exact .nil
  | _, .d x :: rs, _, .cons h t, e => by
    simp only [datas] at e
    cases q : datas rs with
    | none => rw [q] at e; cases e
    | some ds => rw [q] at e; cases e; exact .cons h (datas_ok t q)
  | _, .o _ :: _, _, .cons _ _, e => by simp [datas] at e
noncomputable def small (n : Nat) : Bool := decide (n ≤ sizeLine)
noncomputable def mkTup (rs : List Rv) : M Rv := fun ρ => match datas rs with
  | some ds => if small ds.length then some (.ok (.d (.tuple ds)) ρ) else none
  | none => none
noncomputable def cTup (fs : M (List Rv)) : M Rv := bnd fs mkTup
theorem ve_tup {x1} (h : VA X T W es fs) : VE X T W (.Tuple es x1 pos) (cTup fs) := pe_imp (pe_tup h) fun σ H Q ⟨F, ρ, fp, o, E, e, P⟩ => by
  refine tv_bnd E e P (fun i hi => hi) fun rs ρ1 vs H1 F1 fp1 s1 r1 e1 P1 => ?_
  unfold mkTup at e1
  split at e1
  · rename_i ds hd
    split at e1
    · rename_i hz
      cases ok_inj e1
      have q := datas_ok r1 hd
      refine ⟨by rw [dqAll_len q]; exact of_decide_eq_true hz, fun p np => P1 _ _ _ fp1 ((Grow.new (.tup vs) s1.env.sub np).step s1.env) ?_⟩
      exact .tup upd_same (dqAll_mono (same_upd (s1.env.sub.free np)) _ _ q)
    · cases e1
  · cases e1
noncomputable def mkLst (rs : List Rv) : M Tr := fun ρ => match datas rs with
  | some ds => if small ds.length then some (.ok (.lst (ds.map .dat)) ρ) else none
  | none => none
noncomputable def nLst (fs : M (List Rv)) : M Tr := bnd fs mkLst
theorem new_lst {K : Fg} {T : List Nat} {F H : Hp} {σ : Sg} {ρ : Rho} {fp : FP} {p : Addr} {vs : List V} {ds : List PyData} (E : EnvOk K F H σ ρ fp) (np : H p = none) (q : DqAll K F vs ds) :
    EStep K T F H σ ρ fp F (upd H p (.lst vs)) ρ fp ∧ NewOk K H fp F (upd H p (.lst vs)) fp (.ref p) (.lst (ds.map .dat)) [p] := by
  refine ⟨(Grow.lay (.lst vs) E.sub np).step E, .lst upd_same (E.sub.free np) (trs_dat q), by simp, fun b hb => ?_, fun b hb ho => ?_⟩
  · rw [List.mem_singleton.mp hb]; exact .inl np
  · rw [List.mem_singleton.mp hb] at ho
    exact (E.there ho).1 np
theorem vn_lst (h : VA X T W es fs) : VN X T W (.List es pos) (nLst fs) := pe_imp (pe_lst h) fun σ H Q ⟨F, ρ, fp, o, E, e, P⟩ => by
  refine tv_bnd E e P (fun i hi => hi) fun rs ρ1 vs H1 F1 fp1 s1 r1 e1 P1 => ?_
  unfold mkLst at e1
  split at e1
  · rename_i ds hd
    split at e1
    · rename_i hz
      cases ok_inj e1
      have q := datas_ok r1 hd
      refine ⟨by rw [dqAll_len q]; exact of_decide_eq_true hz, fun p np => ?_⟩
      have z := new_lst (T := T) s1.env np q
      exact P1 _ _ _ fp1 z.1 ⟨_, z.2⟩
    · cases e1
  · cases e1
noncomputable def cFrz (f : M Tr) : M Rv := bnd f fun t => fun ρ => match t.toD with
  | some d => some (.ok (.d d) ρ)
  | none => none
theorem frz_step {K : Fg} {T : List Nat} {F H : Hp} {σ : Sg} {ρ : Rho} {fp : FP} {A : List Addr} (E : EnvOk K F H σ ρ fp) (hA : ∀ b ∈ A, H b ≠ none ∧ F b = none) (hn : ∀ b ∈ A, ∀ ps, H b ≠ some (.tbl ps)) (ho : ∀ b ∈ A, ¬ Owns fp b) :
    EnvOk K (frz F H A) H σ ρ fp := by
  refine ⟨frz_sub E.sub, E.len, fun i s h => ?_, E.nil, E.nd, E.ap, E.tb.frz (fun b hb => (hA b hb).2) hn, E.al⟩
  have q := E.sl i s h
  have s1 : Same F (frz F H A) := frz_same fun b hb => (hA b hb).2
  cases s with
  | no => trivial
  | al _ _ => trivial
  | val d => obtain ⟨u, e1, e2⟩ := q; exact ⟨u, e1, dq_mono s1 _ _ e2⟩
  | own m t =>
    obtain ⟨u, e1, e2⟩ := q
    refine ⟨u, e1, e2.move s1 fun b hb => ⟨rfl, ?_⟩⟩
    unfold frz
    rw [if_neg fun z => ho b z ⟨i, hb⟩]
    exact (e2.mem b hb).2
theorem tv_frz {K : Fg} {f : M Tr} {σ : Sg} {H : Hp} {Q : VK} (h : tV K T W (cFrz f) σ H Q) : tVN K T W f σ H Q := by
  obtain ⟨F, ρ, fp, o, E, e, P⟩ := h
  unfold cFrz bnd at e
  cases hf : f ρ with
  | none => rw [hf] at e; cases e
  | some r =>
    cases r with
    | ex c ρ1 => rw [hf] at e; cases e; exact ⟨F, ρ, fp, _, E, hf, fun H1 F1 fp1 st => P H1 F1 fp1 st⟩
    | ok t ρ1 =>
      rw [hf] at e
      refine ⟨F, ρ, fp, _, E, hf, fun v H1 F1 fp1 s1 ⟨A, n⟩ => ?_⟩
      simp only at e
      split at e
      · rename_i d hd
        cases ok_inj e
        have hA := n.ok.mem
        have E2 := frz_step (T := T) s1.env hA n.ok.ntb n.out
        refine P v H1 (frz F1 H1 A) fp1 ⟨⟨E2, s1.st.fr.trans (frz_same fun b hb => (hA b hb).2), fun b h h' => ?_, s1.st.dom, s1.st.frame, s1.st.own, s1.st.pin, s1.st.lock⟩, s1.ko, s1.un⟩ ?_
        · by_cases hb : b ∈ A
          · exact (n.new b hb).imp_right .inl
          · unfold frz at h'
            rw [if_neg hb] at h'
            exact s1.st.nf b h h'
        · refine n.ok.dp (frz_same fun b hb => (hA b hb).2) (fun b hb => ?_) hd
          unfold frz
          rw [if_pos hb]
      · cases e
theorem ve_frz {f : M Tr} (h : VN X T W e f) : VE X T W e (cFrz f) := pe_imp h fun σ H Q q => tv_frz q
noncomputable def nDat (f : M Rv) : M Tr := bnd f fun x => fun ρ => match x with
  | .d d => some (.ok (.dat d) ρ)
  | .o _ => none
theorem vn_dat (h : VE X T W e fa) : VN X T W e (nDat fa) := pe_imp h fun σ H Q ⟨F, ρ, fp, o, E, q, P⟩ => by
  refine tv_bnd E q P (fun i hi => hi) fun x ρ1 v H1 F1 fp1 s1 r1 e1 P1 => ?_
  cases x with
  | o i => cases e1
  | d d =>
    cases ok_inj e1
    exact P1 _ _ _ fp1 (.refl s1.env) ⟨[], .dat r1, List.nodup_nil, (fun b hb => nomatch hb), (fun b hb => nomatch hb)⟩
end
end VL

end

section
set_option Elab.async false
set_option linter.all false
set_option maxRecDepth 100000
set_option exponentiation.threshold 3000
namespace VL
open PySem PySem.Spec PyProof.Rows L2

section
variable {X : Cx} {T T1 T2 T3 : List Nat} {W : WV} {K : Fg}
theorem opr_or {f : Value → Value → Sem Value} {r r' : R2} (h : OpR X f r) (h' : OpR X f r') : OpR X f (fun x y H Q => r x y H Q ∨ r' x y H Q) :=
  fun pins s σ H x y v u Q I rx ry q => q.elim (h pins s σ H x y v u Q I rx ry) (h' pins s σ H x y v u Q I rx ry)
theorem lstR {pins : List (Addr × Obj)} {σ : Sg} {H : Hp} {s : Shared} {l : Addr} {xs : List V} (I : Inv X pins σ H s) (hH : Rd H l (.lst xs)) : xs.length ≤ sizeLine ∧ ∃ (its : List Value) (n : Nat), Vals xs its ∧ xs.length = its.length ∧ s.heap.get? l = some { cls := .type "list", data := .seq its.toArray n } := by
  obtain ⟨z, its, n, r, e⟩ := hH.ok I.hok
  exact ⟨z, its, n, r, r.length, e⟩
noncomputable def rCatR : R2 := fun x y H Q => ∃ l b xs zs, x = .ref l ∧ y = .ref b ∧ Rd H l (.lst xs) ∧ Rd H b (.lst zs) ∧ xs.length + zs.length ≤ sizeLine ∧ ∀ p, H p = none → Q (.ref p) (upd H p (.lst (xs ++ zs)))
theorem op_catR : OpR X (binaryOp .Add) rCatR := by
  intro pins s σ H x y v u Q I rx ry h
  obtain ⟨l, b, xs, zs, rfl, rfl, hH, hB, hz, q⟩ := h
  cases rx
  cases ry
  obtain ⟨z, its, n, r, hl, e⟩ := lstR I hH
  obtain ⟨z2, its2, n2, r2, hl2, e2⟩ := lstR I hB
  refine PySem.P.add_list e e2 ?_ (by rw [List.size_toArray, List.size_toArray]; omega)
  have ea : its.toArray ++ its2.toArray = (its ++ its2).toArray := by simp
  rw [ea]
  exact ⟨.ref _, _, I.lnew (t' := s.toks) (r.append r2) (by rw [List.length_append]; omega), rfl, q _ I.fresh⟩
theorem rep_all {F : Hp} {vs : List V} {ds : List PyData} (h : DqAll K F vs ds) : ∀ n : Nat, DqAll K F (List.replicate n vs).flatten (List.replicate n ds).flatten
  | 0 => .nil
  | n + 1 => by
    rw [List.replicate_succ, List.replicate_succ, List.flatten_cons, List.flatten_cons]
    exact dqAll_app h (rep_all h n)

noncomputable def addD : PyData → PyData → Option PyData
  | .int i, .int j => some (.int (i + j))
  | .tuple xs, .tuple ys => if small (xs.length + ys.length) then some (.tuple (xs ++ ys)) else none
  | .list xs, .list ys => if small (xs.length + ys.length) then some (.list (xs ++ ys)) else none
  | .str x, .str y => if small (x.length + y.length) then some (.str (x ++ y)) else none
  | _, _ => none
noncomputable def rAddD (K : Fg) : R2 := fun x y H Q => ((rI0 fun i j => .int (i + j)) x y H Q ∨ rCatA K x y H Q) ∨ rCatR x y H Q ∨ (∃ i j, x = .str i ∧ y = .str j ∧ i.length + j.length ≤ sizeLine ∧ Q (.str (i ++ j)) H)
theorem op_addD : OpR X (binaryOp .Add) (rAddD X.K) := opr_or (opr_or op_add op_catA) (opr_or op_catR op_add_str)
theorem small_iff {n : Nat} : small n = true ↔ n ≤ sizeLine := by unfold small; exact decide_eq_true_iff
theorem ok_addD : OpOk K (rAddD K) addD := by
  intro F H x y dx dy z Q s hx hy e k
  unfold addD at e
  split at e
  · cases e
    cases hx.int; cases hy.int
    exact .inl (.inl ⟨_, _, rfl, rfl, k _ F H (.refl s) (.int _)⟩)
  · rename_i xs ys
    split at e
    · rename_i hz
      cases e
      obtain ⟨a, vs, rfl, h1, h2, h3⟩ := hx.tup s
      obtain ⟨b, ws, rfl, h4, h5, h6⟩ := hy.tup s
      refine .inl (.inr ⟨a, b, vs, ws, rfl, rfl, h1, h4, by rw [dqAll_len h2, dqAll_len h5]; exact small_iff.mp hz, fun e0 => ?_, fun _ e0 => ?_, fun _ _ p np => ?_⟩)
      · subst e0
        cases h2
        exact k _ F H (.refl s) h6
      · subst e0
        cases h5
        rw [List.append_nil] at k
        exact k _ F H (.refl s) h3
      · exact k _ _ _ (.new _ s np) (.tup upd_same (dqAll_mono (same_upd (s.free np)) _ _ (dqAll_app h2 h5)))
    · cases e
  · rename_i xs ys
    split at e
    · rename_i hz
      cases e
      obtain ⟨a, vs, rfl, h1, h2⟩ := hx.list s
      obtain ⟨b, ws, rfl, h4, h5⟩ := hy.list s
      refine .inr (.inl ⟨a, b, vs, ws, rfl, rfl, h1, h4, by rw [dqAll_len h2, dqAll_len h5]; exact small_iff.mp hz, fun p np => ?_⟩)
      exact k _ _ _ (.new _ s np) (.lst (.inl upd_same) (dqAll_mono (same_upd (s.free np)) _ _ (dqAll_app h2 h5)))
    · cases e
  · split at e
    · rename_i hz
      cases e
      cases hx.str; cases hy.str
      exact .inr (.inr ⟨_, _, rfl, rfl, small_iff.mp hz, k _ F H (.refl s) (.str _)⟩)
    · cases e
  · cases e
noncomputable def subtD : PyData → PyData → Option PyData
  | .int i, .int j => some (.int (i - j))
  | _, _ => none
theorem ok_subtD : OpOk K (rI0 fun i j => .int (i - j)) subtD := by
  intro F H x y dx dy z Q s hx hy e k
  unfold subtD at e
  split at e
  · cases e
    cases hx.int; cases hy.int
    exact ⟨_, _, rfl, rfl, k _ F H (.refl s) (.int _)⟩
  · cases e
noncomputable def lim : Nat := 2 ^ 2000
noncomputable def mulD : PyData → PyData → Option PyData
  | .int i, .int j => if i.natAbs < lim ∧ j.natAbs < lim then some (.int (i * j)) else none
  | _, _ => none
theorem ok_mulD : OpOk K (rI CMulW fun i j => .int (i * j)) mulD := by
  intro F H x y dx dy z Q s hx hy e k
  unfold mulD at e
  split at e
  · split at e
    · rename_i h
      cases e
      cases hx.int; cases hy.int
      refine ⟨_, _, rfl, rfl, ?_, k _ F H (.refl s) (.int _)⟩
      exact wide_mul (a := 2000) (b := 2000) h.1 h.2 (by decide) (by decide) (by decide)
    · cases e
  · cases e
noncomputable def modD : PyData → PyData → Option PyData
  | .int i, .int j => if 0 < j then some (.int (i % j)) else none
  | _, _ => none
theorem ok_modD : OpOk K (rI (fun _ j => 0 < j) fun i j => .int (i % j)) modD := by
  intro F H x y dx dy z Q s hx hy e k
  unfold modD at e
  split at e
  · split at e
    · rename_i h
      cases e
      cases hx.int; cases hy.int
      exact ⟨_, _, rfl, rfl, h, k _ F H (.refl s) (.int _)⟩
    · cases e
  · cases e
noncomputable def fdivD : PyData → PyData → Option PyData
  | .int i, .int j => if 0 < j ∧ j.natAbs < lim then some (.int (i / j)) else none
  | _, _ => none
theorem ok_fdivD : OpOk K (rI CDivW fun i j => .int (i / j)) fdivD := by
  intro F H x y dx dy z Q s hx hy e k
  unfold fdivD at e
  split at e
  · split at e
    · rename_i h
      cases e
      cases hx.int; cases hy.int
      exact ⟨_, _, rfl, rfl, wide_div (b := 2000) h.1 h.2 (by decide) (by decide), k _ F H (.refl s) (.int _)⟩
    · cases e
  · cases e
noncomputable def powD : PyData → PyData → Option PyData
  | .int i, .int j => if 0 ≤ j ∧ j ≤ 1000 ∧ i.natAbs < 1000000 then some (.int (i ^ j.toNat)) else none
  | _, _ => none
theorem ok_powD : OpOk K (rI CPow fun i j => .int (i ^ j.toNat)) powD := by
  intro F H x y dx dy z Q s hx hy e k
  unfold powD at e
  split at e
  · split at e
    · rename_i h
      cases e
      cases hx.int; cases hy.int
      exact ⟨_, _, rfl, rfl, ⟨h.1, by omega, Nat.lt_trans h.2.2 (by decide)⟩, k _ F H (.refl s) (.int _)⟩
    · cases e
  · cases e
variable {fa fb fc : M Rv} {a b c : Expr} {pos : Pos}
theorem ve_add (ha : VE X T1 W a fa) (hb : VE X T2 W b fb) : VE X (T1 ++ T2) W (.BinOp a .Add b pos) (cBin addD fa fb) := ve_bin op_addD ok_addD ha hb
theorem ve_sub (ha : VE X T1 W a fa) (hb : VE X T2 W b fb) : VE X (T1 ++ T2) W (.BinOp a .Sub b pos) (cBin subtD fa fb) := ve_bin op_sub ok_subtD ha hb
theorem ve_mul (ha : VE X T1 W a fa) (hb : VE X T2 W b fb) : VE X (T1 ++ T2) W (.BinOp a .Mult b pos) (cBin mulD fa fb) := ve_bin op_mulW ok_mulD ha hb
theorem ve_mod (ha : VE X T1 W a fa) (hb : VE X T2 W b fb) : VE X (T1 ++ T2) W (.BinOp a .Mod b pos) (cBin modD fa fb) := ve_bin op_mod ok_modD ha hb
theorem ve_fdiv (ha : VE X T1 W a fa) (hb : VE X T2 W b fb) : VE X (T1 ++ T2) W (.BinOp a .FloorDiv b pos) (cBin fdivD fa fb) := ve_bin op_fdivW ok_fdivD ha hb
theorem ve_pow (ha : VE X T1 W a fa) (hb : VE X T2 W b fb) : VE X (T1 ++ T2) W (.BinOp a .Pow b pos) (cBin powD fa fb) := ve_bin op_pow ok_powD ha hb
noncomputable def cNeg (f : M Rv) : M Rv := bnd f fun x => fun ρ => match x with
  | .d (.int i) => some (.ok (.d (.int (-i))) ρ)
  | _ => none
noncomputable def icmp (p : Int → Int → Bool) : PyData → PyData → Option Bool
  | .int i, .int j => some (p i j)
  | _, _ => none
theorem ok_icmp {p : Int → Int → Bool} : OpOkD K (rI0 fun i j => .bl (p i j)) (icmp p) := by
  intro H x y dx dy z Q hx hy e k
  unfold icmp at e
  split at e
  · cases e
    cases hx; cases hy
    exact ⟨_, _, rfl, rfl, k⟩
  · cases e
noncomputable abbrev ltD := icmp fun i j => decide (i < j)
noncomputable abbrev leD := icmp fun i j => decide (i ≤ j)
noncomputable abbrev gtD := icmp fun i j => decide (j < i)
noncomputable abbrev geD := icmp fun i j => decide (j ≤ i)
noncomputable def eqD (d e : PyData) : Option Bool := if SeqAt.shaped d && SeqAt.shaped e then some (PyData.eqv d e) else none
noncomputable def neD (d e : PyData) : Option Bool := if SeqAt.shaped d && SeqAt.shaped e then some (!PyData.eqv d e) else none
theorem ok_eqD : OpOkD K (rEqD K) eqD := by
  intro H x y dx dy z Q hx hy e k
  unfold eqD at e
  split at e
  · rename_i h
    cases e
    rw [Bool.and_eq_true] at h
    exact ⟨dx, dy, dq_dp _ _ (SeqAt.canLay_of_shaped h.1) hx, dq_dp _ _ (SeqAt.canLay_of_shaped h.2) hy, h.1, h.2, k⟩
  · cases e
theorem ok_neD : OpOkD K (rNeD K) neD := by
  intro H x y dx dy z Q hx hy e k
  unfold neD at e
  split at e
  · rename_i h
    cases e
    rw [Bool.and_eq_true] at h
    exact ⟨dx, dy, dq_dp _ _ (SeqAt.canLay_of_shaped h.1) hx, dq_dp _ _ (SeqAt.canLay_of_shaped h.2) hy, h.1, h.2, k⟩
  · cases e
noncomputable def flatD : PyData → Bool
  | .none => true
  | .bool _ => true
  | .int _ => true
  | .str _ => true
  | _ => false
theorem flatD_ok {H : Hp} {v : V} {d : PyData} (h : Dq K H v d) (f : flatD d = true) : flatV v = true := by
  cases h <;> first | rfl | (exact absurd (show false = true from f) Bool.false_ne_true)
theorem eqV_ok {H : Hp} {v w : V} {d e : PyData} (h : Dq K H v d) (h' : Dq K H w e) (f : flatD d = true) (f' : flatD e = true) : eqV v w = PyData.eqv d e := by
  cases h <;> cases h' <;> first | (exact absurd (show false = true from f) Bool.false_ne_true) | (exact absurd (show false = true from f') Bool.false_ne_true) | rfl | simp [eqV, PyData.eqv]
theorem flat_all {H : Hp} : ∀ {vs : List V} {ds : List PyData}, DqAll K H vs ds → ds.all flatD = true → vs.all flatV = true
  | _, _, .nil, _ => rfl
  | _, _, .cons h t, f => by
    rw [List.all_cons, Bool.and_eq_true] at f ⊢
    exact ⟨flatD_ok h f.1, flat_all t f.2⟩
theorem inV_ok {H : Hp} {v : V} {d : PyData} (h : Dq K H v d) (f : flatD d = true) : ∀ {vs : List V} {ds : List PyData}, DqAll K H vs ds → ds.all flatD = true → inV v vs = ds.any fun z => PyData.eqv z d
  | _, _, .nil, _ => rfl
  | _, _, .cons h1 t, f1 => by
    rw [List.all_cons, Bool.and_eq_true] at f1
    have := inV_ok h f t f1.2
    unfold inV at this ⊢
    rw [List.any_cons, List.any_cons, this, eqV_ok h1 h f1.1 f]
noncomputable def inD (d c : PyData) : Option Bool := match c with
  | .list ds => if SeqAt.shaped d && SeqAt.shaped (.list ds) then some (ds.any fun z => PyData.eqv z d) else none
  | .tuple ds => if flatD d && ds.all flatD then some (ds.any fun z => PyData.eqv z d) else none
  | .str y => (match d with
    | .str x => some (!(Builtin.Str.occurrences y x 0 y.length 1).isEmpty)
    | _ => none)
  | _ => none
noncomputable def notInD (d c : PyData) : Option Bool := (inD d c).map (!·)
noncomputable def rInA (K : Fg) : R2 := fun x y H Q => (rInD K x y H Q ∨ rIn K false x y H Q) ∨ (∃ i j, x = .str i ∧ y = .str j ∧ Q (.bl (!(Builtin.Str.occurrences j i 0 j.length 1).isEmpty)) H)
theorem op_inA (hu : X.A.units + 65 < cLine) : OpR X (compareOp .In) (rInA X.K) := opr_or (opr_or (op_inD hu) op_in_seq) op_in_str
theorem ok_inD : OpOkD K (rInA K) inD := by
  intro H x y dx dy z Q hx hy e k
  unfold inD at e
  split at e
  · split at e
    · rename_i h
      cases e
      rw [Bool.and_eq_true] at h
      exact .inl (.inl ⟨dx, _, dq_dp _ _ (SeqAt.canLay_of_shaped h.1) hx, dq_dp _ _ (SeqAt.canLay_of_shaped h.2) hy, h.1, h.2, k⟩)
    · cases e
  · split at e
    · rename_i h
      cases e
      rw [Bool.and_eq_true] at h
      cases hy with
      | tups hs ha =>
        refine .inl (.inr ⟨_, _, rfl, .inr hs.sq, flatD_ok hx h.1, flat_all ha h.2, ?_⟩)
        simp only [Bool.false_eq_true, if_false]
        rw [inV_ok hx h.1 ha h.2]
        exact k
    · cases e
  · split at e
    · cases e
      cases hx; cases hy
      exact .inr ⟨_, _, rfl, rfl, k⟩
    · cases e
  · cases e
noncomputable def isNon : PyData → Bool
  | .none => true
  | _ => false
noncomputable def isND (d e : PyData) : Option Bool := match e with
  | .none => some (isNon d)
  | _ => none
noncomputable def notND (d e : PyData) : Option Bool := (isND d e).map (!·)
section
variable {a : Expr} {fa : M Rv} {pos p : Pos} {x : Str} {t : Addr} {ds : List PyData}
noncomputable def KTup (K : Fg) (t : Addr) (ds : List PyData) : Prop := ∃ vs, (∀ F : Hp, SqT K F t vs) ∧ ∀ F : Hp, DqAll K F vs ds
end

noncomputable def subD : PyData → PyData → Option PyData
  | .list xs, .int i => atI xs i
  | .tuple xs, .int i => atI xs i
  | .str z, .int i => if small z.length then (atI z.cps.toList i).map fun c => .str ⟨#[c]⟩ else none
  | .dict kvs, .int i => (atI kvs i).map (·.1)
  | _, _ => none
theorem atI_map {α β : Type} {f : α → β} {xs : List α} {i : Int} : atI (xs.map f) i = (atI xs i).map f := by
  unfold atI
  rw [List.length_map]
  cases ixN xs.length i with
  | none => rfl
  | some j => simp
theorem atI_ok {F : Hp} {vs : List V} {ds : List PyData} {i : Int} {d : PyData} (h : DqAll K F vs ds) (e : atI ds i = some d) : ∃ v, atI vs i = some v ∧ Dq K F v d := by
  unfold atI at e ⊢
  rw [dqAll_len h]
  cases q : ixN ds.length i with
  | none => rw [q] at e; cases e
  | some j =>
    rw [q] at e
    exact dqAll_get h e
theorem ok_subD : OpOk K (rIx K) subD := by
  intro F H x y dx dy z Q s hx hy e k
  unfold subD at e
  split at e
  · obtain ⟨a, vs, rfl, h1, h2⟩ := hx.list s
    cases hy.int
    obtain ⟨v, e1, e2⟩ := atI_ok h2 e
    exact .inl ⟨a, vs, _, v, rfl, rfl, .inl h1, e1, k _ F H (.refl s) e2⟩
  · obtain ⟨a, vs, rfl, h1, h2, _⟩ := hx.tup s
    cases hy.int
    obtain ⟨v, e1, e2⟩ := atI_ok h2 e
    exact .inr (.inl ⟨a, vs, _, v, rfl, rfl, h1, e1, k _ F H (.refl s) e2⟩)
  · split at e
    · rename_i z' i hz
      cases hx.str; cases hy.int
      cases q : atI z'.cps.toList i with
      | none => rw [q] at e; cases e
      | some c =>
        rw [q] at e; cases e
        exact .inr (.inr ⟨_, _, c, rfl, rfl, small_iff.mp hz, q, k _ F H (.refl s) (.str _)⟩)
    · cases e
  · rename_i kvs i
    rcases hx with hx | ⟨_, _, _, _, z', _⟩
    · cases hx with
      | @scr a ns hs =>
        cases hy.int
        rw [atI_map] at e
        cases q : atI ns i with
        | none => rw [q] at e; cases e
        | some n =>
          rw [q] at e; cases e
          exact .inl ⟨a, _, i, .int n, rfl, rfl, s.seq hs, by rw [atI_map, q]; rfl, k _ F H (.refl s) (.int _)⟩
    · cases z'
  · cases e
theorem ve_ix (ha : VE X T1 W a fa) (hb : VE X T2 W b fb) (hs : PlainIx b := by intro _ _; rfl) : VE X (T1 ++ T2) W (.Subscript a b pos) (cBin subD fa fb) :=
  pe_imp (pe_ix ix_seq ha hb hs) fun σ H Q h => tv_bin ok_subD h
noncomputable def cutL {α : Type} (xs : List α) (lo hi : Option Int) : List α := (xs.drop (HT.sIx xs.length 0 lo)).take (HT.sIx xs.length xs.length hi - HT.sIx xs.length 0 lo)
theorem cut_ok {F : Hp} {vs : List V} {ds : List PyData} (h : DqAll K F vs ds) (lo hi : Option Int) : DqAll K F (cutV vs lo hi) (cutL ds lo hi) := by
  unfold cutV cutL
  rw [dqAll_len h]
  exact dqAll_take _ (dqAll_drop _ h)
noncomputable def cutD (d : PyData) (lo hi : Option Int) : Option PyData := match d with
  | .list xs => some (.list (cutL xs lo hi))
  | .tuple xs => some (.tuple (cutL xs lo hi))
  | .str z => if small z.length then some (.str (cutS z lo hi)) else none
  | _ => none
noncomputable def rSlD (K : Fg) : V → Option Int → Option Int → Hp → VK → Prop := fun x lo hi H Q => (rSlL K x lo hi H Q ∨ rSlA K x lo hi H Q) ∨ rSlS x lo hi H Q
theorem sl_D : SlR X (rSlD X.K) := SlR.or (SlR.or sl_list sl_tupA) sl_str
theorem ok_cutD {F H : Hp} {x : V} {dx z : PyData} {lo hi : Option Int} {Q : VK} (s : Same F H) (hx : DpS K F H x dx) (e : cutD dx lo hi = some z) (k : ∀ v F' H', Grow F H F' H' → Dq K F' v z → Q v H') : rSlD K x lo hi H Q := by
  unfold cutD at e
  split at e
  · cases e
    obtain ⟨a, vs, rfl, h1, h2⟩ := hx.list s
    refine .inl (.inl ⟨a, vs, rfl, .inl h1, fun p np => ?_⟩)
    exact k _ _ _ (.new _ s np) (.lst (.inl upd_same) (dqAll_mono (same_upd (s.free np)) _ _ (cut_ok h2 lo hi)))
  · cases e
    obtain ⟨a, vs, rfl, h1, h2, h3⟩ := hx.tup s
    refine .inl (.inr ⟨a, vs, rfl, h1, fun w => ?_, fun _ p np => ?_⟩)
    · rename_i xs
      have : cutL xs lo hi = xs := by
        unfold cutL
        rw [dqAll_len h2] at w
        rw [w.1, w.2]
        simp
      rw [this] at k
      exact k _ F H (.refl s) h3
    · exact k _ _ _ (.new _ s np) (.tup upd_same (dqAll_mono (same_upd (s.free np)) _ _ (cut_ok h2 lo hi)))
  · split at e
    · rename_i hz
      cases e
      cases hx.str
      exact .inr ⟨_, rfl, small_iff.mp hz, k _ F H (.refl s) (.str _)⟩
    · cases e
  · cases e
noncomputable def rlO (K : Fg) : Rl K (Option Int) (Option Int) := ⟨fun _ _ _ _ _ _ _ v r => v = r, fun _ h => h⟩
noncomputable def VO (X : Cx) (T : List Nat) (W : WV) (e : Option Expr) (f : M (Option Int)) : Prop := PO X e (fun σ H Q => TVg T W (rlO X.K) f σ H Q)
theorem po_imp {e : Option Expr} {t t' : TO} (h : PO X e t) (i : ∀ σ H Q, t' σ H Q → t σ H Q) : PO X e t' := ⟨fun pins s σ H Q I q => h.run pins s σ H Q I (i σ H Q q)⟩
noncomputable def oNone : M (Option Int) := ret none
noncomputable def oSome (f : M Rv) : M (Option Int) := bnd f fun x => fun ρ => match x with
  | .d (.int i) => some (.ok (some i) ρ)
  | _ => none
theorem vo_none : VO X [] W none oNone := po_imp po_none fun σ H Q ⟨F, ρ, fp, o, E, e, P⟩ => by
  cases ok_inj e
  exact P _ H F fp (.refl E) rfl
theorem vo_some (ha : VE X T W a fa) : VO X T W (some a) (oSome fa) := po_imp (po_some ha) fun σ H Q ⟨F, ρ, fp, o, E, e, P⟩ => by
  refine tv_bnd E e P (fun i hi => hi) fun x ρ1 v H1 F1 fp1 s1 r1 e1 P1 => ?_
  split at e1
  · cases ok_inj e1
    cases r1
    exact ⟨_, rfl, P1 _ H1 F1 fp1 (.refl s1.env) rfl⟩
  · cases e1
noncomputable def cut1 (x : Rv) (lo hi : Option Int) : M Rv := fun ρ => match derS ρ x with
  | some d => (match cutD d lo hi with
    | some z => some (.ok (.d z) ρ)
    | none => none)
  | none => none
noncomputable def cCut (f : M Rv) (fl fh : M (Option Int)) : M Rv := bnd f fun x => bnd fl fun lo => bnd fh fun hi => cut1 x lo hi
variable {fl fh : M (Option Int)} {lo hi : Option Expr} {p2 : Pos}
theorem ve_cut (ha : VE X T1 W a fa) (hl : VO X T2 W lo fl) (hh : VO X T3 W hi fh) : VE X (T1 ++ T2 ++ T3) W (.Subscript a (.Slice lo hi none p2) pos) (cCut fa fl fh) :=
  pe_imp (pe_slice sl_D ha hl hh) fun σ H Q ⟨F, ρ, fp, o, E, e, P⟩ => by
    refine tv_bnd E e P (fun i hi => List.mem_append_left _ (List.mem_append_left _ hi)) fun x ρ1 v H1 F1 fp1 s1 r1 e1 P1 => ?_
    refine tv_bnd s1.env e1 P1 (fun i hi => List.mem_append_left _ (List.mem_append_right _ hi)) fun l ρ2 l' H2 F2 fp2 s2 r2 e2 P2 => ?_
    refine tv_bnd s2.env e2 P2 (fun i hi => List.mem_append_right _ hi) fun u ρ3 u' H3 F3 fp3 s3 r3 e3 P3 => ?_
    have r2 : l' = l := r2
    have r3 : u' = u := r3
    subst r2 r3
    unfold cut1 at e3
    split at e3
    · rename_i d hd
      split at e3
      · rename_i z hz
        cases ok_inj e3
        exact ok_cutD s3.env.sub (derS_ok s3.env (RvOk.step s3 (RvOk.step s2 r1)) hd) hz fun v' F4 H4 gr dp => P3 v' H4 F4 fp3 (gr.step s3.env) dp
      · cases e3
    · cases e3

inductive DpSs (K : Fg) (F H : Hp) : List V → List PyData → Prop
  | nil : DpSs K F H [] []
  | cons {v vs d ds} : DpS K F H v d → DpSs K F H vs ds → DpSs K F H (v :: vs) (d :: ds)
noncomputable def derSs (ρ : Rho) : List Rv → Option (List PyData)
  | [] => some []
  | r :: rs => match derS ρ r, derSs ρ rs with
    | some d, some ds => some (d :: ds)
    | _, _ => none
theorem derSs_ok {F H : Hp} {σ : Sg} {ρ : Rho} {fp : FP} (E : EnvOk K F H σ ρ fp) : ∀ {vs : List V} {rs : List Rv} {ds : List PyData}, RvsOk K F σ ρ vs rs → derSs ρ rs = some ds → DpSs K F H vs ds
  | _, _, _, .nil, e => by simp only [derSs] at e; cases e; exact .nil
  | _, r :: rs, _, .cons h t, e => by
    simp only [derSs] at e
    split at e
    · rename_i d ds hd hds
      cases e
      exact .cons (derS_ok E h hd) (derSs_ok E t hds)
    · cases e
noncomputable def CallOk (K : Fg) (r : List V → Hp → VK → Prop) (g : List PyData → Option PyData) : Prop := ∀ F H vs ds z Q, Same F H → DpSs K F H vs ds → g ds = some z → (∀ v F' H', Grow F H F' H' → Dq K F' v z → Q v H') → r vs H Q
noncomputable def call1 (g : List PyData → Option PyData) (rs : List Rv) : M Rv := fun ρ => match derSs ρ rs with
  | some ds => (match g ds with
    | some z => some (.ok (.d z) ρ)
    | none => none)
  | none => none
noncomputable def cCall (g : List PyData → Option PyData) (fs : M (List Rv)) : M Rv := bnd fs (call1 g)
variable {g : List PyData → Option PyData} {fs : M (List Rv)} {rc : List V → Hp → VK → Prop} {es : List Expr} {e : Expr} {id Ty : String} {x : Str} {p : Pos}
theorem tv_call {σ : Sg} {H : Hp} {Q : VK} (hg : CallOk X.K rc g) (h : tV X.K T W (cCall g fs) σ H Q) : tCB rc (tVA X.K T W fs) σ H Q := by
  obtain ⟨F, ρ, fp, o, E, e, P⟩ := h
  refine tv_bnd E e P (fun i hi => hi) fun rs ρ1 vs H1 F1 fp1 s1 r1 e1 P1 => ?_
  unfold call1 at e1
  split at e1
  · rename_i ds hd
    split at e1
    · rename_i z hz
      cases ok_inj e1
      exact hg F1 H1 vs ds z Q s1.env.sub (derSs_ok s1.env r1 hd) hz fun v' F4 H4 gr dp => P1 v' H4 F4 fp1 (gr.step s1.env) dp
    · cases e1
  · cases e1
theorem ve_callB (hc : CallR X (.builtin id) rc) (hk : CallOk X.K rc g) (hg : Gl X x) (hm : X.mg x = none) (hv : bootBuiltins x = some (.builtin id)) (ha : VA X T W (e :: es) fs) (hn : x ≠ "__name__" := by decide) (hdb : (x == ("__debug__" : Str)) = false := by decide)
    (he : starEach (e :: es) X.env = (false, eval e X.env) :: starEach es X.env := by rfl) (hpl : (backTo pos (starEach es X.env)).any (·.1) = false := by rfl) : VE X T W (.Call (.Name x p) (e :: es) [] pos) (cCall g fs) :=
  pe_imp (pe_callB hc hg hm hv ha hn hdb he hpl) fun σ H Q h => tv_call hk h
theorem ve_callTy (hc : CallR X (.type Ty) rc) (hk : CallOk X.K rc g) (hg : Gl X x) (hm : X.mg x = none) (hv : bootBuiltins x = some (.type Ty)) (ha : VA X T W (e :: es) fs) (hn : x ≠ "__name__" := by decide) (hdb : (x == ("__debug__" : Str)) = false := by decide)
    (he : starEach (e :: es) X.env = (false, eval e X.env) :: starEach es X.env := by rfl) (hpl : (backTo pos (starEach es X.env)).any (·.1) = false := by rfl) : VE X T W (.Call (.Name x p) (e :: es) [] pos) (cCall g fs) :=
  pe_imp (pe_callTy hc hg hm hv ha hn hdb he hpl) fun σ H Q h => tv_call hk h
noncomputable def lenD : List PyData → Option PyData
  | [.list xs] => some (.int xs.length)
  | [.tuple xs] => some (.int xs.length)
  | [.str z] => if small z.length then some (.int z.length) else none
  | [.dict kvs] => some (.int kvs.length)
  | _ => none
theorem ok_lenD : CallOk K (fun xs H Q => ∃ x n, xs = [x] ∧ LenV K x H n ∧ Q (.int n) H) lenD := by
  intro F H vs ds z Q s h e k
  unfold lenD at e
  split at e
  · cases h with
    | cons h t =>
      cases t
      cases e
      obtain ⟨a, ws, rfl, h1, h2⟩ := h.list s
      exact ⟨_, ws.length, rfl, .inl ⟨ws, .inl h1, rfl⟩, k _ F H (.refl s) (by rw [dqAll_len h2]; exact .int _)⟩
  · cases h with
    | cons h t =>
      cases t
      cases e
      obtain ⟨a, ws, rfl, h1, h2, _⟩ := h.tup s
      exact ⟨_, ws.length, rfl, .inr ⟨ws, h1, rfl⟩, k _ F H (.refl s) (by rw [dqAll_len h2]; exact .int _)⟩
  · cases h with
    | cons h t =>
      cases t
      split at e
      · rename_i hz
        cases e
        cases h.str
        exact ⟨_, _, rfl, ⟨small_iff.mp hz, rfl⟩, k _ F H (.refl s) (.int _)⟩
      · cases e
  · cases h with
    | cons h t =>
      cases t
      cases e
      rcases h with h | ⟨_, _, _, _, z', _⟩
      · cases h with
        | @scr a ns hs => exact ⟨_, _, rfl, .inl ⟨_, s.seq hs, rfl⟩, k _ F H (.refl s) (by rw [List.length_map, List.length_map]; exact .int _)⟩
      · cases z'
  · cases e
noncomputable def absD : List PyData → Option PyData
  | [.int i] => some (.int (if i < 0 then -i else i))
  | _ => none
noncomputable def min2D : List PyData → Option PyData
  | [.int i, .int j] => some (.int (if j < i then j else i))
  | _ => none
noncomputable def max2D : List PyData → Option PyData
  | [.int i, .int j] => some (.int (if j > i then j else i))
  | _ => none
theorem ok_min2D : CallOk K (fun xs H Q => ∃ i j, xs = [.int i, .int j] ∧ Q (.int (if j < i then j else i)) H) min2D := by
  intro F H vs ds z Q s h e k
  unfold min2D at e
  split at e
  · cases h with
    | cons h t =>
      cases t with
      | cons h2 t =>
        cases t
        cases e
        cases h.int; cases h2.int
        exact ⟨_, _, rfl, k _ F H (.refl s) (.int _)⟩
  · cases e
noncomputable def intD : List PyData → Option PyData
  | [.int i] => some (.int i)
  | [.bool b] => some (.int (if b then 1 else 0))
  | _ => none
theorem ok_intD : CallOk K (fun xs H Q => (∃ i, xs = [.int i] ∧ Q (.int i) H) ∨ ∃ k, xs = [.bl k] ∧ Q (.int (if k then 1 else 0)) H) intD := by
  intro F H vs ds z Q s h e k
  unfold intD at e
  split at e
  · cases h with
    | cons h t =>
      cases t
      cases e
      cases h.int
      exact .inl ⟨_, rfl, k _ F H (.refl s) (.int _)⟩
  · cases h with
    | cons h t =>
      cases t
      cases e
      cases h.bl
      exact .inr ⟨_, rfl, k _ F H (.refl s) (.int _)⟩
  · cases e
noncomputable def tupleD : List PyData → Option PyData
  | [.list xs] => some (.tuple xs)
  | [.tuple xs] => some (.tuple xs)
  | _ => none
noncomputable def listD : List PyData → Option PyData
  | [.list xs] => some (.list xs)
  | [.tuple xs] => some (.list xs)
  | _ => none
theorem ok_listD : CallOk K (fun xs H Q => ∃ p ys, xs = [.ref p] ∧ (SqL K H p ys ∨ SqT K H p ys) ∧ ∀ l, H l = none → Q (.ref l) (upd H l (.lst ys))) listD := by
  intro F H vs ds z Q s h e k
  unfold listD at e
  split at e
  · cases h with
    | cons h t =>
      cases t
      cases e
      obtain ⟨a, ws, rfl, h1, h2⟩ := h.list s
      exact ⟨a, ws, rfl, .inl (.inl h1), fun l nl => k _ _ _ (.new _ s nl) (.lst (.inl upd_same) (dqAll_mono (same_upd (s.free nl)) _ _ h2))⟩
  · cases h with
    | cons h t =>
      cases t
      cases e
      obtain ⟨a, ws, rfl, h1, h2, h3⟩ := h.tup s
      exact ⟨a, ws, rfl, .inr h1, fun l nl => k _ _ _ (.new _ s nl) (.lst (.inl upd_same) (dqAll_mono (same_upd (s.free nl)) _ _ h2))⟩
  · cases e

inductive BT where
  | int | bool | str | tuple | list
noncomputable def isiD (B : BT) (d : PyData) : Option Bool := match d with
  | .none => some false
  | .bool _ => some (match B with | .int => true | .bool => true | _ => false)
  | .int _ => some (match B with | .int => true | _ => false)
  | .str _ => some (match B with | .str => true | _ => false)
  | .list _ => some (match B with | .list => true | _ => false)
  | .tuple _ => some (match B with | .tuple => true | _ => false)
  | .dict _ => none
noncomputable def cIsi (B : BT) (f : M Rv) : M Rv := bnd f fun x => fun ρ => match der ρ x with
  | some d => (match isiD B d with
    | some b => some (.ok (.d (.bool b)) ρ)
    | none => none)
  | none => none
end
end VL

end

section
set_option Elab.async false
set_option linter.all false
set_option maxRecDepth 100000
namespace VL
open PySem PySem.Spec PyProof.Rows L2

inductive Out where
  | nx (ρ : Rho)
  | rt (t : Tr) (ρ : Rho)
  | bk (ρ : Rho)
  | ct (ρ : Rho)
  | ex (c : Str) (ρ : Rho)
noncomputable abbrev MS := Rho → Option Out
noncomputable def SPst (K : Fg) (W : WV) (F H : Hp) (σ : Sg) (ρ : Rho) (fp : FP) (D : Ends) : Out → Prop
  | .nx ρ' => ∀ σ' H' F' fp', Step K F H σ ρ fp F' H' σ' ρ' fp' → D.nx σ' H'
  | .bk ρ' => ∀ σ' H' F' fp', Step K F H σ ρ fp F' H' σ' ρ' fp' → D.bk σ' H'
  | .ct ρ' => ∀ σ' H' F' fp', Step K F H σ ρ fp F' H' σ' ρ' fp' → D.ct σ' H'
  | .rt t ρ' => ∀ v A σ' H' F' fp', Step K F H σ ρ fp F' H' σ' ρ' fp' → NewOk K H fp F' H' fp' v t A → D.rt v H'
  | .ex c ρ' => ∀ σ' H' F' fp', Step K F H σ ρ fp F' H' σ' ρ' fp' → W c σ' H'
theorem NewOk.back {K : Fg} {F H F1 H1 F2 H2 : Hp} {σ σ1 : Sg} {ρ ρ1 : Rho} {fp fp1 fp2 : FP} {v : V} {t : Tr} {A : List Addr} (s : Step K F H σ ρ fp F1 H1 σ1 ρ1 fp1) (h : NewOk K H1 fp1 F2 H2 fp2 v t A) : NewOk K H fp F2 H2 fp2 v t A :=
  ⟨h.ok, h.nd, fun b hb => (h.new b hb).elim (fun z => .inl (s.dom b z)) fun z => (s.own b z).symm, h.out⟩
theorem SPst.step {K : Fg} {W : WV} {F H F1 H1 : Hp} {σ σ1 : Sg} {ρ ρ1 : Rho} {fp fp1 : FP} {D : Ends} (s : Step K F H σ ρ fp F1 H1 σ1 ρ1 fp1) : ∀ {o : Out}, SPst K W F H σ ρ fp D o → SPst K W F1 H1 σ1 ρ1 fp1 D o
  | .nx _, h => fun σ' H' F' fp' e => h σ' H' F' fp' (s.trans e)
  | .bk _, h => fun σ' H' F' fp' e => h σ' H' F' fp' (s.trans e)
  | .ct _, h => fun σ' H' F' fp' e => h σ' H' F' fp' (s.trans e)
  | .rt _ _, h => fun v A σ' H' F' fp' e n => h v A σ' H' F' fp' (s.trans e) (n.back s)
  | .ex _ _, h => fun σ' H' F' fp' e => h σ' H' F' fp' (s.trans e)
noncomputable def tS (K : Fg) (W : WV) (g : MS) : TS := fun D σ H => ∃ F ρ fp o, EnvOk K F H σ ρ fp ∧ g ρ = some o ∧ SPst K W F H σ ρ fp D o
noncomputable def VS (X : Cx) (W : WV) (st : Stmt) (g : MS) : Prop := PS X st (tS X.K W g)
noncomputable def VSs (X : Cx) (W : WV) (st : List Stmt) (g : MS) : Prop := PSs X st (tS X.K W g)

section
variable {X : Cx} {T T1 T2 : List Nat} {W : WV} {K : Fg} {st : Stmt} {rest : List Stmt} {g h : MS} {fa : M Rv} {fn : M Tr} {e : Expr} {pos : Pos}
noncomputable def sNil : MS := fun ρ => some (.nx ρ)
noncomputable def sSeq (g h : MS) : MS := fun ρ => match g ρ with
  | some (.nx ρ1) => h ρ1
  | o => o
theorem vss_nil : VSs X W [] sNil := pss_imp pss_nil fun D σ H ⟨F, ρ, fp, o, E, e, P⟩ => by
  cases (Option.some.inj e)
  exact P σ H F fp (.refl E)
theorem vss_cons (h1 : VS X W st g) (h2 : VSs X W rest h) : VSs X W (st :: rest) (sSeq g h) := pss_imp (pss_cons h1 h2) fun D σ H ⟨F, ρ, fp, o, E, e, P⟩ => by
  unfold sSeq at e
  cases q : g ρ with
  | none => rw [q] at e; cases e
  | some r =>
    rw [q] at e
    cases r with
    | nx ρ1 => exact ⟨F, ρ, fp, _, E, q, fun σ' H' F' fp' s => ⟨F', ρ1, fp', o, s.env, e, P.step s⟩⟩
    | rt t ρ1 => cases e; exact ⟨F, ρ, fp, _, E, q, P⟩
    | bk ρ1 => cases e; exact ⟨F, ρ, fp, _, E, q, P⟩
    | ct ρ1 => cases e; exact ⟨F, ρ, fp, _, E, q, P⟩
    | ex c ρ1 => cases e; exact ⟨F, ρ, fp, _, E, q, P⟩
theorem vss_one (h1 : VS X W st g) : VSs X W [st] g := pss_one h1
noncomputable def sE {α : Type} (f : M α) (k : α → MS) : MS := fun ρ => match f ρ with
  | some (.ok a ρ1) => k a ρ1
  | some (.ex c ρ1) => some (.ex c ρ1)
  | none => none
theorem tv_st {α β : Type} {R : Rl K α β} {f : M α} {k : α → MS} {F H : Hp} {σ : Sg} {ρ : Rho} {fp : FP} {o : Out} {D : Ends} {Q1 : β → Hp → Prop} (E : EnvOk K F H σ ρ fp) (e : sE f k ρ = some o) (P : SPst K W F H σ ρ fp D o)
    (hk : ∀ a ρ1 b H1 F1 fp1, EStep K T F H σ ρ fp F1 H1 ρ1 fp1 → R.r H fp F1 H1 fp1 σ ρ1 b a → k a ρ1 = some o → SPst K W F1 H1 σ ρ1 fp1 D o → Q1 b H1) : TVg T W R f σ H Q1 := by
  unfold sE at e
  cases q : f ρ with
  | none => rw [q] at e; cases e
  | some r =>
    rw [q] at e
    cases r with
    | ok a ρ1 => exact ⟨F, ρ, fp, _, E, q, fun b H1 F1 fp1 st r => hk a ρ1 b H1 F1 fp1 st r e (P.step st.st)⟩
    | ex c ρ1 => cases e; exact ⟨F, ρ, fp, _, E, q, fun H1 F1 fp1 st => P σ H1 F1 fp1 st.st⟩
noncomputable def sRet (f : M Tr) : MS := sE f fun t => fun ρ => some (.rt t ρ)
theorem vs_ret (h : VN X T W e fn) : VS X W (.Return (some e) pos) (sRet fn) := ps_imp (ps_ret h) fun D σ H ⟨F, ρ, fp, o, E, e, P⟩ => by
  refine tv_st E e P fun t ρ1 v H1 F1 fp1 s1 r1 e1 _ => ?_
  cases (Option.some.inj e1)
  obtain ⟨A, n⟩ := r1
  exact P v A σ H1 F1 fp1 s1.st n
noncomputable def sRetN : MS := fun ρ => some (.rt (.dat .none) ρ)
noncomputable def setSl (ρ : Rho) (i : Nat) (s : Sl) : Option Rho := match ρ[i]? with
  | some (.own .pin _) => none
  | some (.own .lock _) => none
  | some (.own (.bor _) _) => none
  | some _ => some (ρ.set i s)
  | none => none
theorem setSl_some {ρ ρ' : Rho} {i : Nat} {s : Sl} (h : setSl ρ i s = some ρ') : ρ' = ρ.set i s ∧ i < ρ.length ∧ (∀ m t, ρ[i]? = some (.own m t) → m.pn = false) ∧ (∀ t, ρ[i]? ≠ some (.own .lock t)) := by
  unfold setSl at h
  cases q : ρ[i]? with
  | none => rw [q] at h; cases h
  | some s0 =>
    have hi := (List.getElem?_eq_some_iff.mp q).1
    rw [q] at h
    cases s0 with
    | no => cases h; exact ⟨rfl, hi, (fun m t z => nomatch z), (fun t z => nomatch z)⟩
    | al _ _ => cases h; exact ⟨rfl, hi, (fun m t z => nomatch z), (fun t z => nomatch z)⟩
    | val d => cases h; exact ⟨rfl, hi, (fun m t z => nomatch z), (fun t z => nomatch z)⟩
    | own m t0 =>
      cases m with
      | free => cases h; exact ⟨rfl, hi, (fun m t z => by cases z; rfl), (fun t z => nomatch z)⟩
      | pin => cases h
      | lock => cases h
      | bor _ => cases h
noncomputable def fset (fp : FP) (i : Nat) (A : List Addr) : FP := fun j => if j = i then A else fp j
theorem sg_set {σ : Sg} {i : Nat} {v : Option V} (h : i < σ.length) : sg (σ.set i v) i = v := by
  unfold sg
  rw [List.getElem?_set_self h]
  rfl
theorem sg_set_ne {σ : Sg} {i j : Nat} {v : Option V} (h : i ≠ j) : sg (σ.set i v) j = sg σ j := by
  unfold sg
  rw [List.getElem?_set_ne h]
noncomputable def isOwn : Sl → Bool
  | .own _ _ => true
  | _ => false
noncomputable def plainSl : Sl → Bool
  | .al _ _ => false
  | .own (.bor _) _ => false
  | _ => true
theorem set_env {F H : Hp} {σ : Sg} {ρ : Rho} {fp : FP} {i : Nat} {v : V} {s : Sl} {A : List Addr} (E : EnvOk K F H σ ρ fp) (hi : i < ρ.length) (hs : SlOk K F H (some v) A s) (hn : A.Nodup) (ho : ∀ b ∈ A, ¬ Owns fp b) (ha : isOwn s = false → A = []) (hp : plainSl s = true := by rfl) :
    EnvOk K F H (σ.set i (some v)) (ρ.set i s) (fset fp i A) := by
  have hσ : i < σ.length := by rw [E.len]; exact hi
  refine ⟨E.sub, by rw [List.length_set, List.length_set]; exact E.len, fun j u hu => ?_, fun j hj => ?_, fun j => ?_, fun j l b h1 h2 => ?_, E.tb, E.al' (fun j k p h => ?_) fun k p t h => ?_⟩
  rotate_left 4
  · by_cases hji : i = j
    · subst hji
      rw [List.getElem?_set_self hi] at h
      cases h
      cases hp
    · rw [List.getElem?_set_ne hji] at h
      exact ⟨h, sg_set_ne hji⟩
  · by_cases hji : i = k
    · subst hji
      rw [List.getElem?_set_self hi] at h
      cases h
      cases hp
    · rw [List.getElem?_set_ne hji] at h
      exact ⟨h, sg_set_ne hji, fun _ _ => rfl⟩
  · by_cases hji : i = j
    · subst hji
      rw [List.getElem?_set_self hi] at hu
      cases hu
      rw [sg_set hσ]
      unfold fset
      rw [if_pos rfl]
      exact hs
    · rw [List.getElem?_set_ne hji] at hu
      rw [sg_set_ne hji]
      unfold fset
      rw [if_neg (Ne.symm hji)]
      exact E.sl j u hu
  · unfold fset
    by_cases hji : j = i
    · rw [if_pos hji]
      subst hji
      apply ha
      cases s with
      | own m t => exact absurd (List.getElem?_set_self hi) (hj m t)
      | _ => rfl
    · rw [if_neg hji]
      refine E.nil j fun m t z => hj m t ?_
      rw [List.getElem?_set_ne (Ne.symm hji)]
      exact z
  · unfold fset
    split
    · exact hn
    · exact E.nd j
  · unfold fset at h1 h2
    split at h1
    · split at h2
      · omega
      · exact absurd ⟨l, h2⟩ (ho b h1)
    · split at h2
      · exact absurd ⟨j, h1⟩ (ho b h2)
      · exact E.ap j l b h1 h2
theorem Owns.fset {fp : FP} {i : Nat} {A : List Addr} {b : Addr} (h : Owns (fset fp i A) b) : b ∈ A ∨ Owns fp b := by
  obtain ⟨j, h⟩ := h
  unfold VL.fset at h
  split at h
  · exact .inl h
  · exact .inr ⟨j, h⟩
theorem set_step {F H F1 H1 : Hp} {σ : Sg} {ρ ρ1 ρ2 : Rho} {fp fp1 : FP} {i : Nat} {v : V} {s : Sl} {A : List Addr} (s1 : Step K F H σ ρ fp F1 H1 σ ρ1 fp1) (hset : setSl ρ1 i s = some ρ2) (hs : SlOk K F1 H1 (some v) A s) (hn : A.Nodup)
    (ho : ∀ b ∈ A, ¬ Owns fp1 b) (ha : isOwn s = false → A = []) (hw : ∀ b ∈ A, H b = none ∨ Owns fp b) (hp : plainSl s = true := by rfl) : Step K F H σ ρ fp F1 H1 (σ.set i (some v)) ρ2 (fset fp1 i A) := by
  obtain ⟨rfl, hi, np, nl⟩ := setSl_some hset
  refine ⟨set_env s1.env hi hs hn ho ha hp, s1.fr, s1.nf, s1.dom, s1.frame, fun b hb => ?_, fun j m t hj hm => ?_, fun j t hj => ?_⟩
  · rcases hb.fset with z | z
    · exact (hw b z).symm
    · exact s1.own b z
  · obtain ⟨e1, m', t', h1, k1⟩ := s1.pin j m t hj hm
    have hji : i ≠ j := fun z => by subst z; rw [np m' t' h1] at k1; cases k1
    exact ⟨by rw [sg_set_ne hji], m', t', by rw [List.getElem?_set_ne hji]; exact h1, k1⟩
  · obtain ⟨e1, h1, f1, g1⟩ := s1.lock j t hj
    have hji : i ≠ j := fun z => by subst z; exact nl t h1
    refine ⟨by rw [sg_set_ne hji], by rw [List.getElem?_set_ne hji]; exact h1, ?_, g1⟩
    unfold fset
    rw [if_neg (Ne.symm hji)]
    exact f1
noncomputable def putD (i : Nat) (d : PyData) : MS := fun ρ => (setSl ρ i (.val d)).map .nx
noncomputable def sSet (i : Nat) (f : M Rv) : MS := sE f fun x => match x with
  | .d d => putD i d
  | .o _ => fun _ => none
theorem put_val {F H F1 H1 : Hp} {σ : Sg} {ρ ρ1 ρ2 : Rho} {fp fp1 : FP} {i : Nat} {v : V} {d : PyData} (s1 : Step K F H σ ρ fp F1 H1 σ ρ1 fp1) (hset : setSl ρ1 i (.val d) = some ρ2) (hd : Dq K F1 v d) : Step K F H σ ρ fp F1 H1 (σ.set i (some v)) ρ2 (fset fp1 i []) :=
  set_step s1 hset ⟨v, rfl, hd⟩ List.nodup_nil (fun b hb => nomatch hb) (fun _ => rfl) (fun b hb => nomatch hb)
theorem map_some {α β : Type} {f : α → β} {o : Option α} {b : β} (h : o.map f = some b) : ∃ a, o = some a ∧ b = f a := by
  cases o with
  | none => cases h
  | some a => exact ⟨a, rfl, (Option.some.inj h).symm⟩
theorem vs_set {i : Nat} {x : Str} {pos' : Pos} (hN : X.N.Nodup) (he : VE X T W e fa) (hi : X.N[i]? = some x := by rfl) (hx : Loc X.env.scope x := by first | exact Or.inl rfl | exact Or.inr rfl) (hs : swapsWith e (some (.Name x pos')) pos.line X.env = pure false := by rfl)
    (hf : X.fn x = true ∨ X.env.scope.names.lookup x = some .local := by first | exact .inl rfl | exact .inr rfl | assumption) : VS X W (.Assign [.Name x pos'] e pos) (sSet i fa) :=
  ps_imp (ps_set hN hi hx he hs hf) fun D σ H ⟨F, ρ, fp, o, E, e, P⟩ => by
    refine tv_st E e P fun r ρ1 v H1 F1 fp1 s1 r1 e1 _ => ?_
    cases r with
    | o _ => cases e1
    | d d =>
      obtain ⟨ρ2, e2, rfl⟩ := map_some e1
      exact P _ H1 F1 _ (put_val s1.st e2 r1)
noncomputable def sSetN (i : Nat) (f : M Tr) : MS := sE f fun t => fun ρ => (setSl ρ i (.own .free t)).map .nx
theorem vs_setN {i : Nat} {x : Str} {pos' : Pos} (hN : X.N.Nodup) (he : VN X T W e fn) (hi : X.N[i]? = some x := by rfl) (hx : Loc X.env.scope x := by first | exact Or.inl rfl | exact Or.inr rfl) (hs : swapsWith e (some (.Name x pos')) pos.line X.env = pure false := by rfl)
    (hf : X.fn x = true ∨ X.env.scope.names.lookup x = some .local := by first | exact .inl rfl | exact .inr rfl | assumption) : VS X W (.Assign [.Name x pos'] e pos) (sSetN i fn) :=
  ps_imp (ps_set hN hi hx he hs hf) fun D σ H ⟨F, ρ, fp, o, E, e, P⟩ => by
    refine tv_st E e P fun t ρ1 v H1 F1 fp1 s1 ⟨A, n⟩ e1 _ => ?_
    obtain ⟨ρ2, e2, rfl⟩ := map_some e1
    exact P _ H1 F1 _ (set_step s1.st e2 ⟨v, rfl, n.ok⟩ n.nd n.out (fun z => nomatch z) n.new)
noncomputable abbrev MG := PyData → Rho → Option Rho
noncomputable def Off (vs : List Nat) (σ : Sg) (ρ : Rho) (fp : FP) (σ' : Sg) (ρ' : Rho) (fp' : FP) : Prop := σ'.length = σ.length ∧ ∀ (i : Nat), i ∉ vs → sg σ' i = sg σ i ∧ ρ'[i]? = ρ[i]? ∧ fp' i = fp i
theorem Off.refl {vs : List Nat} {σ : Sg} {ρ : Rho} {fp : FP} : Off vs σ ρ fp σ ρ fp := ⟨rfl, fun _ _ => ⟨rfl, rfl, rfl⟩⟩
theorem Off.trans {us vs : List Nat} {σ σ1 σ2 : Sg} {ρ ρ1 ρ2 : Rho} {fp fp1 fp2 : FP} (a : Off us σ ρ fp σ1 ρ1 fp1) (b : Off vs σ1 ρ1 fp1 σ2 ρ2 fp2) : Off (us ++ vs) σ ρ fp σ2 ρ2 fp2 :=
  ⟨b.1.trans a.1, fun i hi => by
    obtain ⟨a1, a2, a3⟩ := a.2 i fun z => hi (List.mem_append_left _ z)
    obtain ⟨b1, b2, b3⟩ := b.2 i fun z => hi (List.mem_append_right _ z)
    exact ⟨b1.trans a1, b2.trans a2, b3.trans a3⟩⟩
noncomputable def GOk (K : Fg) (g : TG) (ws : List Nat) (G : MG) : Prop := ∀ v σ H Q F ρ fp d ρ', EnvOk K F H σ ρ fp → Dq K F v d → G d ρ = some ρ' → (∀ σ' fp', Step K F H σ ρ fp F H σ' ρ' fp' → Off ws σ ρ fp σ' ρ' fp' → Q σ' H) → g v σ H Q
noncomputable def VG (X : Cx) (tg : Expr) (g : TG) (ws : List Nat) (G : MG) : Prop := PG X tg g ∧ GOk X.K g ws G
noncomputable def gN (i : Nat) : MG := fun d ρ => setSl ρ i (.val d)
theorem vg_name {i : Nat} {x : Str} (hN : X.N.Nodup) (hi : X.N[i]? = some x := by rfl) (hx : Loc X.env.scope x := by first | exact Or.inl rfl | exact Or.inr rfl) (hf : X.fn x = true ∨ X.env.scope.names.lookup x = some .local := by first | exact .inl rfl | exact .inr rfl | assumption) : VG X (.Name x pos) (gName i) [i] (gN i) :=
  ⟨pg_name hN hi hx hf, fun v σ H Q F ρ fp d ρ' E hd e k => k _ _ (put_val (.refl E) e hd) (by
    obtain ⟨rfl, h2, h3, h4⟩ := setSl_some e
    refine ⟨List.length_set, fun j hj => ?_⟩
    have hij : i ≠ j := fun z => hj (by simp [z])
    refine ⟨sg_set_ne hij, List.getElem?_set_ne hij, ?_⟩
    unfold fset
    rw [if_neg (Ne.symm hij)])⟩
noncomputable abbrev MGs := List PyData → Rho → Option Rho
noncomputable def VGs (X : Cx) (tgs : List Expr) (g : TGs) (ws : List Nat) (G : MGs) : Prop := PGs X tgs g ∧ ∀ vs σ H Q F ρ fp ds ρ', EnvOk X.K F H σ ρ fp → DqAll X.K F vs ds → G ds ρ = some ρ' → (∀ σ' fp', Step X.K F H σ ρ fp F H σ' ρ' fp' → Off ws σ ρ fp σ' ρ' fp' → Q σ' H) → g vs σ H Q
noncomputable def gsN : MGs := fun ds ρ => match ds with
  | [] => some ρ
  | _ => none
noncomputable def gsC (G : MG) (Gs : MGs) : MGs := fun ds ρ => match ds with
  | d :: r => (match G d ρ with
    | some ρ1 => Gs r ρ1
    | none => none)
  | [] => none
theorem vgs_nil : VGs X [] gNil [] gsN := ⟨pgs_nil, fun vs σ H Q F ρ fp ds ρ' E hd e k => by
  unfold gsN at e
  split at e
  · cases hd
    cases e
    exact ⟨rfl, k σ fp (.refl E) .refl⟩
  · cases e⟩
theorem vgs_cons {tg : Expr} {tgs : List Expr} {us vs : List Nat} {g : TG} {gs : TGs} {G : MG} {Gs : MGs} (h1 : VG X tg g us G) (h2 : VGs X tgs gs vs Gs) (hs : (assignEach (tg :: tgs) X.env).map (·.2) = assign tg X.env :: (assignEach tgs X.env).map (·.2) := by rfl) : VGs X (tg :: tgs) (gCons g gs) (us ++ vs) (gsC G Gs) := by
  obtain ⟨p1, q1⟩ := h1
  obtain ⟨p2, q2⟩ := h2
  refine ⟨pgs_cons p1 p2 hs, fun vs σ H Q F ρ fp ds ρ' E hd e k => ?_⟩
  unfold gsC at e
  split at e
  · cases hd with
    | cons hv hr =>
      split at e
      · rename_i ρ1 e1
        refine ⟨_, _, rfl, q1 _ σ H _ F ρ fp _ ρ1 E hv e1 fun σ1 fp1 s1 o1 => ?_⟩
        exact q2 _ σ1 H Q F ρ1 fp1 _ ρ' s1.env hr e fun σ' fp' s2 o2 => k σ' fp' (s1.trans s2) (o1.trans o2)
      · cases e
  · cases e
noncomputable def gT (n : Nat) (Gs : MGs) : MG := fun d ρ => match d with
  | .tuple ds => if ds.length = n then Gs ds ρ else none
  | _ => none
theorem vg_tup {es : List Expr} {k n : Nat} {vs : List Nat} {gs : TGs} {Gs : MGs} (hc : X.calm = true) (h : VGs X es gs vs Gs) (hn : (assignEach es X.env).length = n := by rfl) (hst : (assignEach es X.env).findIdx? (·.1) = none := by rfl) : VG X (.Tuple es k pos) (gTup X.K n gs) vs (gT n Gs) := by
  obtain ⟨p1, q1⟩ := h
  refine ⟨pg_tup hc p1 hn hst, fun v σ H Q F ρ fp d ρ' E hd e k => ?_⟩
  unfold gT at e
  split at e
  · split at e
    · rename_i hl
      cases hd with
      | tups hs ha => exact ⟨_, _, rfl, (hs.mono E.sub).sq, by rw [dqAll_len ha]; exact hl, q1 _ σ H Q F ρ fp _ ρ' E ha e k⟩
    · cases e
  · cases e
noncomputable def sAsg (G : MG) (f : M Rv) : MS := sE f fun x => fun ρ => match x with
  | .d d => (G d ρ).map .nx
  | .o _ => none
theorem vs_asg {tg : Expr} {gt : TG} {ws : List Nat} {G : MG} (he : VE X T W e fa) (hg : VG X tg gt ws G) (hs : swapsWithSole [tg] e pos.line X.env = pure false := by rfl) (hw : swappedStores [tg] e X.env = pure none := by rfl)
    (h1 : (assignEach [tg] X.env).map (·.2) = [assign tg X.env] := by rfl) : VS X W (.Assign [tg] e pos) (sAsg G fa) := by
  obtain ⟨p1, q1⟩ := hg
  refine ps_imp (ps_asg he p1 hs hw h1) fun D σ H ⟨F, ρ, fp, o, E, e, P⟩ => ?_
  refine tv_st E e P fun r ρ1 v H1 F1 fp1 s1 r1 e1 P1 => ?_
  cases r with
  | o _ => cases e1
  | d d =>
    obtain ⟨ρ2, e2, rfl⟩ := map_some e1
    exact q1 v σ H1 _ F1 ρ1 fp1 d ρ2 s1.env r1 e2 fun σ' fp' s2 _ => P1 σ' H1 F1 fp' s2
noncomputable def augI (i : Nat) (f : Int → Int → Int) (a : Int) (y : Rv) : MS := fun ρ => match y with
  | .d (.int b) => putD i (.int (f a b)) ρ
  | _ => none
noncomputable def sAug (i : Nat) (f : Int → Int → Int) (fa : M Rv) : MS := fun ρ => match ρ[i]? with
  | some (.val (.int a)) => sE fa (augI i f a) ρ
  | some (.own _ (.dat (.int a))) => sE fa (augI i f a) ρ
  | _ => none
theorem vs_aug {i : Nat} {x : Str} {op : Operator} {f : Int → Int → Int} {pos' : Pos} (hN : X.N.Nodup) (he : VE X T W e fa) (ho : PIp X op (ipI f)) (hi : X.N[i]? = some x := by rfl) (hx : Loc X.env.scope x := by first | exact Or.inl rfl | exact Or.inr rfl) (hf : X.fn x = true ∨ X.env.scope.names.lookup x = some .local := by first | exact .inl rfl | exact .inr rfl | assumption) :
    VS X W (.AugAssign (.Name x pos') op e pos) (sAug i f fa) := ps_imp (ps_aug hN hi hx he ho hf) fun D σ H ⟨F, ρ, fp, o, E, e, P⟩ => by
  have go : ∀ a : Int, sE fa (augI i f a) ρ = some o → tV X.K T W fa σ H fun y H1 => ipI f (.int a) y H1 fun z H2 => D.nx (σ.set i (some z)) H2 := fun a e => by
    refine tv_st E e P fun r ρ1 v H1 F1 fp1 s1 r1 e1 _ => ?_
    unfold augI at e1
    split at e1
    · cases r1
      obtain ⟨ρ2, e2, rfl⟩ := map_some e1
      exact ⟨_, _, rfl, rfl, P _ H1 F1 _ (put_val s1.st e2 (.int _))⟩
    · cases e1
  unfold sAug at e
  split at e
  · rename_i a hq
    obtain ⟨u, hu, q⟩ := E.sl i _ hq
    cases q
    exact ⟨_, sg_some.mp hu, go a e⟩
  · rename_i m a hq
    obtain ⟨u, hu, q⟩ := E.sl i _ hq
    generalize fp i = A at q
    cases q with
    | dat q =>
      cases q
      exact ⟨_, sg_some.mp hu, go a e⟩
  · cases e
variable {fc : M Bool} {c : Expr} {body els : List Stmt}
noncomputable def sIf (c : M Bool) (g h : MS) : MS := sE c fun b => if b then g else h
theorem vs_if (hc : VT X T W c fc) (ha : VSs X W body g) (hb : VSs X W els h) : VS X W (.If c body els pos) (sIf fc g h) := ps_imp (ps_if hc ha hb) fun D σ H ⟨F, ρ, fp, o, E, e, P⟩ => by
  refine tv_st E e P fun x ρ1 v H1 F1 fp1 s1 r1 e1 P1 => ?_
  have r1 : v = x := r1
  subst r1
  cases v with
  | true =>
    rw [if_pos rfl] at e1 ⊢
    exact ⟨F1, ρ1, fp1, o, s1.env, e1, P1⟩
  | false =>
    rw [if_neg Bool.false_ne_true] at e1 ⊢
    exact ⟨F1, ρ1, fp1, o, s1.env, e1, P1⟩
noncomputable def sBk : MS := fun ρ => some (.bk ρ)
noncomputable def sCt : MS := fun ρ => some (.ct ρ)
noncomputable def sDrop (f : M Rv) : MS := sE f fun _ => sNil
noncomputable def VI (X : Cx) (T : List Nat) (W : WV) (tg iter : Expr) (f : M (List PyData)) : Prop := ∃ wi, PI X tg iter wi ∧ ∀ σ H R F ρ fp o, EnvOk X.K F H σ ρ fp → f ρ = some o →
  (match o with
   | Er.ok xs ρ' => ∀ J G Y H1 F1 fp1, EStep X.K T F H σ ρ fp F1 H1 ρ' fp1 → Walk J xs.length G Y → (∀ F2 H2, Same F1 F2 → Same F2 H2 → G H2) →
      (∀ i F2 H2 x H3, i < xs.length → Same F1 F2 → Same F2 H2 → Y i H2 x H3 → ∃ F3 d, xs[i]? = some d ∧ Grow F2 H2 F3 H3 ∧ Dq X.K F3 x d) → R J H1
   | Er.ex c ρ' => ∀ H1 F1 fp1, EStep X.K T F H σ ρ fp F1 H1 ρ' fp1 → W c σ H1) → wi σ H R
theorem pi_or {tg iter : Expr} {w w' : TI} (h : PI X tg iter w) (h' : PI X tg iter w') : PI X tg iter (fun σ H R => w σ H R ∨ w' σ H R) := ⟨fun pins s σ H R I q => q.elim (h.run pins s σ H R I) (h'.run pins s σ H R I)⟩
noncomputable def itemsOf : PyData → Option (List PyData)
  | .list xs => some xs
  | .tuple xs => some xs
  | _ => none
noncomputable def iSeq (f : M Rv) : M (List PyData) := bnd f fun x => fun ρ => match x with
  | .d d => (match itemsOf d with
    | some xs => some (.ok xs ρ)
    | none => none)
  | .o _ => none
theorem vi_seq {tg : Expr} (he : VE X T W e fa) : VI X T W tg e (iSeq fa) := by
  refine ⟨_, pi_or (pi_list he) (pi_tup he), fun σ H R F ρ fp o E q P => ?_⟩
  unfold iSeq bnd at q
  cases hf : fa ρ with
  | none => rw [hf] at q; cases q
  | some r =>
    rw [hf] at q
    cases r with
    | ex c ρ1 => cases q; exact .inl ⟨F, ρ, fp, _, E, hf, fun H1 F1 fp1 s1 => P H1 F1 fp1 s1⟩
    | ok x ρ1 =>
      cases x with
      | o i => cases q
      | d d =>
        simp only at q
        split at q
        · rename_i xs hx
          cases q
          unfold itemsOf at hx
          split at hx
          · cases hx
            refine .inl ⟨F, ρ, fp, _, E, hf, fun v H1 F1 fp1 s1 r1 => ?_⟩
            cases r1 with
            | @lst a0 vs0 _ hs ha =>
              have w0 := walk_list (K := X.K) (a := a0) (xs := vs0)
              rw [dqAll_len ha] at w0
              refine ⟨_, rfl, ⟨_, .inl (rd_mono s1.env.sub hs)⟩, P _ _ _ H1 F1 fp1 s1 w0 (fun F2 H2 a b => .inl (rd_mono (a.trans b) hs)) fun i F2 H2 x H3 hi a b y => ?_⟩
              obtain ⟨rfl, hy⟩ := y
              obtain ⟨v, hv, dv⟩ := dqAll_get ha (List.getElem?_eq_getElem hi)
              rw [hv] at hy; cases hy
              exact ⟨F2, _, List.getElem?_eq_getElem hi, .refl b, dq_mono a _ _ dv⟩
          · cases hx
            refine .inr ⟨F, ρ, fp, _, E, hf, fun v H1 F1 fp1 s1 r1 => ?_⟩
            cases r1 with
            | @tups a0 vs0 _ hs ha =>
              have w0 := walk_tup (K := X.K) (a := a0) (xs := vs0)
              rw [dqAll_len ha] at w0
              refine ⟨_, rfl, ⟨_, (hs.mono s1.env.sub).sq⟩, P _ _ _ H1 F1 fp1 s1 w0 (fun F2 H2 a b => (hs.mono (a.trans b)).sq) fun i F2 H2 x H3 hi a b y => ?_⟩
              obtain ⟨rfl, hy⟩ := y
              obtain ⟨v, hv, dv⟩ := dqAll_get ha (List.getElem?_eq_getElem hi)
              rw [hv] at hy; cases hy
              exact ⟨F2, _, List.getElem?_eq_getElem hi, .refl b, dq_mono a _ _ dv⟩
          · cases hx
        · cases q
noncomputable def rangeD (lo : Int) (n : Nat) : List PyData := (List.range n).map fun i => .int (lo + (i : Nat))
noncomputable def iRange1 (f : M (List Rv)) : M (List PyData) := bnd f fun rs => fun ρ => match rs with
  | [.d (.int j)] => if -(2 ^ 62) ≤ j ∧ j < 2 ^ 62 then some (.ok (rangeD 0 j.toNat) ρ) else none
  | _ => none
theorem rangeD_len (lo : Int) (n : Nat) : (rangeD lo n).length = n := by unfold rangeD; simp
theorem rangeD_get {lo : Int} {n i : Nat} (h : i < n) : (rangeD lo n)[i]? = some (.int (lo + (i : Nat))) := by
  unfold rangeD
  rw [List.getElem?_map, List.getElem?_range h]
  rfl
theorem vi_range1 {tg a : Expr} {fs : M (List Rv)} {p : Pos} (hg : Gl X "range") (hm : X.mg "range" = none) (ha : VA X T W [a] fs) (hs : starEach [a] X.env = [(false, eval a X.env)] := by rfl) : VI X T W tg (.Call (.Name "range" p) [a] [] pos) (iRange1 fs) := by
  refine ⟨_, pi_range1 hg hm ha hs, fun σ H R F ρ fp o E q P => ?_⟩
  unfold iRange1 bnd at q
  cases hf : fs ρ with
  | none => rw [hf] at q; cases q
  | some r =>
    rw [hf] at q
    cases r with
    | ex c ρ1 => cases q; exact ⟨F, ρ, fp, _, E, hf, fun H1 F1 fp1 s1 => P H1 F1 fp1 s1⟩
    | ok rs ρ1 =>
      refine ⟨F, ρ, fp, _, E, hf, fun vs H1 F1 fp1 s1 r1 => ?_⟩
      simp only at q
      split at q
      · split at q
        · rename_i j hj
          cases q
          cases r1 with
          | cons h t =>
            cases t
            cases h
            refine ⟨j, rfl, hj.1, hj.2, P _ _ _ H1 F1 fp1 s1 (by rw [rangeD_len]; exact walk_range) (fun _ _ _ _ => trivial) fun i F2 H2 x H3 hi a b y => ?_⟩
            obtain ⟨rfl, rfl⟩ := y
            rw [rangeD_len] at hi
            exact ⟨F2, _, rangeD_get hi, .refl b, .int _⟩
        · cases q
      · cases q
noncomputable def enumD (xs : List PyData) : List PyData := xs.zipIdx.map fun p => .tuple [.int (p.2 : Nat), p.1]
noncomputable def loopF (G : MG) (body : MS) : List PyData → MS
  | [], ρ => some (.nx ρ)
  | x :: xs, ρ => match G x ρ with
    | none => none
    | some ρ1 => match body ρ1 with
      | some (.nx ρ2) => loopF G body xs ρ2
      | some (.ct ρ2) => loopF G body xs ρ2
      | some (.bk ρ2) => some (.nx ρ2)
      | o => o
noncomputable def sFor (fi : M (List PyData)) (G : MG) (body : MS) : MS := sE fi fun xs => loopF G body xs
theorem vs_for {tg iter : Expr} {gt : TG} {ws : List Nat} {fi : M (List PyData)} {G : MG} (hp : PassesOwn (model X.prog X.w) X.A X.env X.xe) (hc : X.calm = true) (hi : VI X T W tg iter fi) (hg : VG X tg gt ws G) (hb : VSs X W body g)
    (hs : ∀ x, foldedSetIterable iter X.env x = pure x := by intro _; rfl) : VS X W (.For tg iter body [] pos) (sFor fi G g) := by
  obtain ⟨wi, p1, q1⟩ := hi
  obtain ⟨p2, q2⟩ := hg
  refine ps_imp (ps_for hp hc p1 p2 hb hs) fun D σ H ⟨F, ρ, fp, o, E, e, P⟩ => ?_
  unfold sFor sE at e
  cases hf : fi ρ with
  | none => rw [hf] at e; cases e
  | some r =>
    rw [hf] at e
    cases r with
    | ex c ρ1 => cases e; exact q1 σ H _ F ρ fp _ E hf fun H1 F1 fp1 s1 => P σ H1 F1 fp1 s1.st
    | ok xs ρ1 =>
      refine q1 σ H _ F ρ fp _ E hf fun J Gw Y H1 F1 fp1 s1 w hG hY => ?_
      have P1 := P.step s1.st
      refine for_it w (fun i σ' H' => ∃ F' ρ' fp', Step X.K F1 H1 σ ρ1 fp1 F' H' σ' ρ' fp' ∧ loopF G g (xs.drop i) ρ' = some o) ⟨F1, ρ1, fp1, .refl s1.env, by rw [List.drop_zero]; exact e⟩
        (fun i σ' H' _ ⟨F', ρ', fp', s2, _⟩ => hG F' H' s2.fr s2.env.sub) (fun i x σ' H' H3 hi ⟨F', ρ', fp', s2, e2⟩ y => ?_) fun σ' H' ⟨F', ρ', fp', s2, e2⟩ => ?_
      · obtain ⟨F3, d, hd, g3, dx⟩ := hY i F' H' x H3 hi s2.fr s2.env.sub y
        have hdrop : xs.drop i = d :: xs.drop (i + 1) := by
          obtain ⟨hi', hd'⟩ := List.getElem?_eq_some_iff.mp hd
          rw [List.drop_eq_getElem_cons hi', hd']
        rw [hdrop] at e2
        unfold loopF at e2
        have s3 : Step X.K F1 H1 σ ρ1 fp1 F3 H3 σ' ρ' fp' := s2.trans (g3.step (T := []) s2.env).st
        split at e2
        · cases e2
        · rename_i ρ4 h4
          refine q2 x σ' H3 _ F3 ρ' fp' d ρ4 s3.env dx h4 fun σ4 fp4 s4 _ => ?_
          have s5 := s3.trans s4
          split at e2
          · rename_i ρ5 h5
            exact ⟨F3, ρ4, fp4, _, s4.env, h5, fun σ6 H6 F6 fp6 s6 => ⟨F6, ρ5, fp6, s5.trans s6, e2⟩⟩
          · rename_i ρ5 h5
            exact ⟨F3, ρ4, fp4, _, s4.env, h5, fun σ6 H6 F6 fp6 s6 => ⟨F6, ρ5, fp6, s5.trans s6, e2⟩⟩
          · rename_i ρ5 h5
            cases e2
            exact ⟨F3, ρ4, fp4, _, s4.env, h5, fun σ6 H6 F6 fp6 s6 => P1 σ6 H6 F6 fp6 (s5.trans s6)⟩
          · rename_i h1' h2' h3'
            refine ⟨F3, ρ4, fp4, _, s4.env, e2, ?_⟩
            cases o with
            | nx ρ5 => exact absurd e2 (h1' ρ5)
            | ct ρ5 => exact absurd e2 (h2' ρ5)
            | bk ρ5 => exact absurd e2 (h3' ρ5)
            | rt t ρ5 => exact fun v A σ6 H6 F6 fp6 s6 n => P1 v A σ6 H6 F6 fp6 (s5.trans s6) (n.back s5)
            | ex c ρ5 => exact fun σ6 H6 F6 fp6 s6 => P1 σ6 H6 F6 fp6 (s5.trans s6)
      · rw [List.drop_length] at e2
        cases (Option.some.inj e2)
        exact P1 σ' H' F' fp' s2
noncomputable def loopW (c : M Bool) (body : MS) : Nat → MS
  | 0, _ => none
  | n + 1, ρ => match c ρ with
    | none => none
    | some (.ex k ρ1) => some (.ex k ρ1)
    | some (.ok false ρ1) => some (.nx ρ1)
    | some (.ok true ρ1) => match body ρ1 with
      | some (.nx ρ2) => loopW c body n ρ2
      | some (.ct ρ2) => loopW c body n ρ2
      | some (.bk ρ2) => some (.nx ρ2)
      | o => o
noncomputable def sWhile (n : Nat) (c : M Bool) (body : MS) : MS := loopW c body n
theorem vs_while {n : Nat} (hp : PassesOwn (model X.prog X.w) X.A X.env X.xe) (hc : VT X T W c fc) (hb : VSs X W body g) : VS X W (.While c body [] pos) (sWhile n fc g) := by
  refine ps_imp (ps_while hp hc hb) fun D σ H ⟨F, ρ, fp, o, E, e, P⟩ => ?_
  refine ⟨fun m σ' H' => ∃ F' ρ' fp', Step X.K F H σ ρ fp F' H' σ' ρ' fp' ∧ loopW fc g m ρ' = some o, ⟨n, F, ρ, fp, .refl E, e⟩, fun m σ' H' ⟨F', ρ', fp', s1, e1⟩ => ?_⟩
  cases m with
  | zero => cases e1
  | succ m =>
    unfold loopW at e1
    cases hf : fc ρ' with
    | none => rw [hf] at e1; cases e1
    | some r =>
      rw [hf] at e1
      cases r with
      | ex k ρ1 =>
        cases e1
        exact ⟨F', ρ', fp', _, s1.env, hf, fun H2 F2 fp2 s2 => P σ' H2 F2 fp2 (s1.trans s2.st)⟩
      | ok b ρ1 =>
        refine ⟨F', ρ', fp', _, s1.env, hf, fun v H2 F2 fp2 s2 r2 => ?_⟩
        have r2 : v = b := r2
        subst r2
        have s3 := s1.trans s2.st
        cases v with
        | false =>
          dsimp only
          rw [if_neg Bool.false_ne_true]
          cases (Option.some.inj e1)
          exact P σ' H2 F2 fp2 s3
        | true =>
          dsimp only
          rw [if_pos rfl]
          refine ⟨fun σ6 H6 => ∃ F6 ρ6 fp6, Step X.K F H σ ρ fp F6 H6 σ6 ρ6 fp6 ∧ loopW fc g m ρ6 = some o, fun σ6 H6 q => ⟨m, Nat.lt_succ_self m, q⟩, ?_⟩
          simp only at e1
          split at e1
          · rename_i ρ5 h5
            exact ⟨F2, ρ1, fp2, _, s2.env, h5, fun σ6 H6 F6 fp6 s6 => ⟨F6, ρ5, fp6, s3.trans s6, e1⟩⟩
          · rename_i ρ5 h5
            exact ⟨F2, ρ1, fp2, _, s2.env, h5, fun σ6 H6 F6 fp6 s6 => ⟨F6, ρ5, fp6, s3.trans s6, e1⟩⟩
          · rename_i ρ5 h5
            cases e1
            exact ⟨F2, ρ1, fp2, _, s2.env, h5, fun σ6 H6 F6 fp6 s6 => P σ6 H6 F6 fp6 (s3.trans s6)⟩
          · rename_i h1' h2' h3'
            refine ⟨F2, ρ1, fp2, _, s2.env, e1, ?_⟩
            cases o with
            | nx ρ5 => exact absurd e1 (h1' ρ5)
            | ct ρ5 => exact absurd e1 (h2' ρ5)
            | bk ρ5 => exact absurd e1 (h3' ρ5)
            | rt t ρ5 => exact fun v A σ6 H6 F6 fp6 s6 n => P v A σ6 H6 F6 fp6 (s3.trans s6) (n.back s3)
            | ex c ρ5 => exact fun σ6 H6 F6 fp6 s6 => P σ6 H6 F6 fp6 (s3.trans s6)
end
end VL

end

section
set_option Elab.async false
set_option linter.all false
set_option maxRecDepth 100000
namespace VL
open PySem PySem.Spec PyProof.Rows L2

noncomputable def pinS : Sl → Sl
  | .own .free t => .own .pin t
  | s => s
inductive FR where
  | ret (t : Tr)
  | exc (c : Str)
noncomputable abbrev Fn := List Sl → Option (FR × List Sl)
noncomputable def entry (n : Nat) (args : List Sl) : Rho := args.map pinS ++ List.replicate (n - args.length) .no
noncomputable def runF (n : Nat) (g : MS) : Fn := fun args => match g (entry n args) with
  | some (.nx ρ') => some (.ret (.dat .none), ρ'.take args.length)
  | some (.rt t ρ') => some (.ret t, ρ'.take args.length)
  | some (.ex c ρ') => some (.exc c, ρ'.take args.length)
  | _ => none
noncomputable def Md.unb : Md → Md
  | .bor _ => .pin
  | m => m
noncomputable def Md.arg : Md → Md
  | .bor _ => .lock
  | m => m
theorem Md.unb_pn : ∀ {m : Md}, m.pn = true → m.unb = .pin
  | .pin, _ => rfl
  | .bor _, _ => rfl
noncomputable def mrg1 (a : Sl) (o : Option Sl) : Sl := match a, o with
  | .own _ _, some (.own m t) => .own m.unb t
  | .own _ _, some o => o
  | a, _ => a
noncomputable def mrg : List Sl → List Sl → List Sl
  | [], _ => []
  | a :: as, os => mrg1 a os.head? :: mrg as os.tail
theorem mrg_get : ∀ {as os : List Sl} {i : Nat} {a : Sl}, as[i]? = some a → (mrg as os)[i]? = some (mrg1 a os[i]?)
  | [], _, _, _, h => by simp at h
  | b :: as, os, 0, a, h => by
    simp at h; subst h
    cases os <;> rfl
  | b :: as, os, i + 1, a, h => by
    have := mrg_get (as := as) (os := os.tail) (i := i) (a := a) (by simpa using h)
    show (mrg as os.tail)[i]? = _
    rw [this]
    cases os <;> simp
theorem mrg_len : ∀ {as os : List Sl}, (mrg as os).length = as.length
  | [], _ => rfl
  | _ :: as, os => by simp [mrg, mrg_len (as := as)]
noncomputable abbrev WX0 := Str → XK → Hp → Prop
noncomputable def FPst (K : Fg) (Wx : WX0) (F H : Hp) (vs : List V) (args : List Sl) (fp : FP) (outs : List Sl) (Q : VK) (E : XK) : FR → Prop
  | .ret t => ∀ v A H' F' fp', Step K F H (vs.map some) args fp F' H' (vs.map some) (mrg args outs) fp' → NewOk K H fp F' H' fp' v t A → Q v H'
  | .exc c => ∀ H' F' fp', Step K F H (vs.map some) args fp F' H' (vs.map some) (mrg args outs) fp' → Wx c E H'
noncomputable def spV (K : Fg) (Wx : WX0) (m : Nat) (f : Fn) : Sp := fun vs H Q E => vs.length = m ∧ ∃ F args fp r outs, EnvOk K F H (vs.map some) args fp ∧ f args = some (r, outs) ∧ FPst K Wx F H vs args fp outs Q E r
section
variable {K : Fg}
theorem slOk_pin {F H : Hp} {v : Option V} {A : List Addr} : ∀ {s : Sl}, SlOk K F H v A s → SlOk K F H v A (pinS s)
  | .no, h => h
  | .val _, h => h
  | .own .free _, h => h
  | .own .pin _, h => h
  | .own .lock _, h => h
  | .own (.bor _) _, h => h
  | .al _ _, h => h
theorem entry_env {F H : Hp} {vs : List V} {args : List Sl} {fp : FP} {n : Nat} (E : EnvOk K F H (vs.map some) args fp) : EnvOk K F H (vs.map some ++ List.replicate (n - vs.length) none) (entry n args) fp := by
  have hl : vs.length = args.length := by have := E.len; rwa [List.length_map] at this
  have sgE : ∀ i, i < args.length → sg (vs.map some ++ List.replicate (n - vs.length) none) i = sg (vs.map some) i := fun i hi => by
    unfold sg
    rw [List.getElem?_append_left (by simpa [hl] using hi)]
  have back : ∀ (i : Nat) s, (entry n args)[i]? = some s → s ≠ .no → ∃ a, args[i]? = some a ∧ s = pinS a := fun i s h hs => by
    unfold entry at h
    by_cases hi : i < args.length
    · rw [List.getElem?_append_left (by simpa using hi), List.getElem?_map, List.getElem?_eq_getElem hi] at h
      cases h
      exact ⟨_, List.getElem?_eq_getElem hi, rfl⟩
    · rw [List.getElem?_append_right (by simpa using hi), List.getElem?_replicate] at h
      split at h
      · cases h; exact absurd rfl hs
      · cases h
  refine ⟨E.sub, by unfold entry; simp [hl], fun i s h => ?_, fun i h => ?_, E.nd, E.ap, E.tb, E.al' (fun j k p h => ?_) fun k p t h => ?_⟩
  rotate_left 2
  · obtain ⟨a, h1, h2⟩ := back j _ h (fun z => nomatch z)
    have e : a = .al k p := by
      cases a with
      | al _ _ => exact h2.symm
      | own m t => cases m <;> cases h2
      | _ => cases h2
    subst e
    exact ⟨h1, sgE j (List.getElem?_eq_some_iff.mp h1).1⟩
  · obtain ⟨a, h1, h2⟩ := back k _ h (fun z => nomatch z)
    have e : a = .own (.bor p) t := by
      cases a with
      | own m t => cases m <;> cases h2; rfl
      | _ => cases h2
    subst e
    exact ⟨h1, sgE k (List.getElem?_eq_some_iff.mp h1).1, fun _ _ => rfl⟩
  · unfold entry at h
    by_cases hi : i < args.length
    · rw [List.getElem?_append_left (by simpa using hi), List.getElem?_map, List.getElem?_eq_getElem hi] at h
      cases h
      refine slOk_pin ?_
      have q := E.sl i _ (List.getElem?_eq_getElem hi)
      have e : sg (vs.map some ++ List.replicate (n - vs.length) none) i = sg (vs.map some) i := by
        unfold sg
        rw [List.getElem?_append_left (by simpa [hl] using hi)]
      rw [e]
      exact q
    · rw [List.getElem?_append_right (by simpa using hi), List.getElem?_replicate] at h
      split at h
      · cases h; trivial
      · cases h
  · refine E.nil i fun m t z => ?_
    have hi : i < args.length := (List.getElem?_eq_some_iff.mp z).1
    have q : (entry n args)[i]? = some (pinS (.own m t)) := by
      unfold entry
      rw [List.getElem?_append_left (by simpa using hi), List.getElem?_map, z]
      rfl
    cases m with
    | free => exact h _ _ q
    | pin => exact h _ _ q
    | lock => exact h _ _ q
    | bor _ => exact h _ _ q
noncomputable def isOwnAt (args : List Sl) (i : Nat) : Bool := match args[i]? with
  | some (.own _ _) => true
  | _ => false
theorem exit_step {F H F' H' : Hp} {vs : List V} {args : List Sl} {fp fp' : FP} {n : Nat} {σ' : Sg} {ρ' : Rho} (E : EnvOk K F H (vs.map some) args fp)
    (s : Step K F H (vs.map some ++ List.replicate (n - vs.length) none) (entry n args) fp F' H' σ' ρ' fp') :
    Step K F H (vs.map some) args fp F' H' (vs.map some) (mrg args (ρ'.take args.length)) (fun i => if isOwnAt args i then fp' i else []) := by
  have hl : vs.length = args.length := by have := E.len; rwa [List.length_map] at this
  have key : ∀ (i : Nat) m t, args[i]? = some (Sl.own m t) → ∃ m' t', (mrg args (ρ'.take args.length))[i]? = some (Sl.own m'.unb t') ∧ ρ'[i]? = some (Sl.own m' t') ∧ sg σ' i = sg (vs.map some) i ∧
      (m = .lock → m' = .lock ∧ t' = t ∧ fp' i = fp i ∧ ∀ b ∈ fp i, H' b = H b) ∧ (m.pn = true → m'.pn = true) := by
    intro i m t h
    have hi : i < args.length := (List.getElem?_eq_some_iff.mp h).1
    have e : sg (vs.map some ++ List.replicate (n - vs.length) none) i = sg (vs.map some) i := by
      unfold sg
      rw [List.getElem?_append_left (by simpa [hl] using hi)]
    have q : (entry n args)[i]? = some (pinS (.own m t)) := by
      unfold entry
      rw [List.getElem?_append_left (by simpa using hi), List.getElem?_map, h]
      rfl
    have tk : (ρ'.take args.length)[i]? = ρ'[i]? := List.getElem?_take_of_lt hi
    cases m with
    | free =>
      obtain ⟨a, m', t', b, k⟩ := s.pin i _ t q rfl
      refine ⟨m', t', by rw [mrg_get h, tk, b]; rfl, b, a.trans e, (fun z => nomatch z), (fun z => nomatch z)⟩
    | pin =>
      obtain ⟨a, m', t', b, k⟩ := s.pin i _ t q rfl
      refine ⟨m', t', by rw [mrg_get h, tk, b]; rfl, b, a.trans e, (fun z => nomatch z), (fun _ => k)⟩
    | bor p =>
      obtain ⟨a, m', t', b, k⟩ := s.pin i _ t q rfl
      refine ⟨m', t', by rw [mrg_get h, tk, b]; rfl, b, a.trans e, (fun z => nomatch z), (fun _ => k)⟩
    | lock =>
      obtain ⟨a, b, c, d⟩ := s.lock i t q
      refine ⟨.lock, t, by rw [mrg_get h, tk, b]; rfl, b, a.trans e, (fun _ => ⟨rfl, rfl, c, d⟩), (fun z => nomatch z)⟩
  have ow : ∀ {b}, Owns (fun i => if isOwnAt args i then fp' i else []) b → Owns fp' b := fun {b} ⟨i, h⟩ => by
    dsimp only at h
    split at h
    · exact ⟨i, h⟩
    · cases h
  refine ⟨⟨s.env.sub, by rw [mrg_len]; exact E.len, fun i u hu => ?_, fun i hi => ?_, fun i => ?_, fun i j b h1 h2 => ?_, s.env.tb, fun j i p t h1 h2 => ?_⟩, s.fr, s.nf, s.dom, s.frame, fun b hb => s.own b (ow hb), fun i m t h hm => ?_, fun i t h => ?_⟩
  rotate_left 4
  · exfalso
    cases ha : args[i]? with
    | none =>
      have := (List.getElem?_eq_some_iff.mp h2).1
      rw [mrg_len] at this
      rw [List.getElem?_eq_none_iff] at ha
      omega
    | some a =>
      cases a with
      | own m t0 =>
        obtain ⟨m', t', e1, _⟩ := key i m t0 ha
        rw [e1] at h2
        cases m' <;> cases h2
      | no => rw [mrg_get ha] at h2; cases h2
      | val d => rw [mrg_get ha] at h2; cases h2
      | al _ _ => rw [mrg_get ha] at h2; cases h2
  · obtain ⟨m', t', e1, _, _, _, e5⟩ := key i _ t h
    refine ⟨rfl, _, t', e1, ?_⟩
    rw [Md.unb_pn (e5 hm)]
    rfl
  · obtain ⟨m', t', e1, _, _, e4, _⟩ := key i _ t h
    obtain ⟨rfl, rfl, e5, e6⟩ := e4 rfl
    have hy : isOwnAt args i = true := by unfold isOwnAt; rw [h]
    refine ⟨rfl, e1, ?_, e6⟩
    simp only [hy, if_true]
    exact e5
  · have hi : i < args.length := by
      have := (List.getElem?_eq_some_iff.mp hu).1
      rwa [mrg_len] at this
    cases ha : args[i]? with
    | none => rw [List.getElem?_eq_none_iff] at ha; omega
    | some a =>
      cases a with
      | own m t =>
        obtain ⟨m', t', e1, e2, e3, _⟩ := key i m t ha
        rw [e1] at hu; cases hu
        have q := s.env.sl i _ e2
        rw [e3] at q
        have q : SlOk K F' H' (sg (vs.map some) i) (fp' i) (.own m'.unb t') := q
        have hy : isOwnAt args i = true := by unfold isOwnAt; rw [ha]
        simp only [hy, if_true]
        exact q
      | no =>
        rw [mrg_get ha] at hu
        cases hu
        trivial
      | al _ _ =>
        rw [mrg_get ha] at hu
        cases hu
        trivial
      | val d =>
        rw [mrg_get ha] at hu
        cases hu
        obtain ⟨v, hv, hd⟩ := E.sl i _ ha
        exact ⟨v, hv, dq_mono s.fr _ _ hd⟩
  · split
    · rename_i hy
      unfold isOwnAt at hy
      split at hy
      · rename_i m t ha
        obtain ⟨m', t', e1, _⟩ := key i m t ha
        exact absurd e1 (hi _ t')
      · cases hy
    · rfl
  · split
    · exact s.env.nd i
    · exact List.nodup_nil
  · split at h1
    · split at h2
      · exact s.env.ap i j b h1 h2
      · cases h2
    · cases h1
end
section
variable {P : Program} {w : World} {K : PySem.W.Frag} {mg : Str → Option Value} {base : Heap}
noncomputable abbrev W0 : WV := fun _ _ _ => False
noncomputable abbrev Wx0 : WX0 := fun _ _ _ => False
theorem run_ok {CX : CXT} {x qual : Str} {f : Addr} {N ps : List Str} {sc : Scope} {Wx : WX0} {g : MS} {cdv : Value} {A : Around} {outer : List Env} {s : Shared} {H : Hp} {vs : List V} {Q : VK} {E : XK} (h : spV K Wx ps.length (runF N.length g) vs H Q E) :
    tS K (fun c _ H' => Wx c E H') g { nx := fun _ H' => Q .non H', rt := Q } (start N vs) H := by
  obtain ⟨hl, F, args, fp, r, outs, E0, e, P0⟩ := h
  have hla : vs.length = args.length := by have := E0.len; rwa [List.length_map] at this
  have E1 := entry_env (n := N.length) E0
  unfold runF at e
  cases q : g (entry N.length args) with
  | none => rw [q] at e; cases e
  | some o =>
    rw [q] at e
    refine ⟨F, entry N.length args, fp, o, E1, q, ?_⟩
    cases o with
    | nx ρ' =>
      cases e
      intro σ' H' F' fp' st
      exact P0 .non [] H' F' _ (exit_step E0 st) ⟨.dat .non, List.nodup_nil, (fun b hb => nomatch hb), (fun b hb => nomatch hb)⟩
    | rt t ρ' =>
      cases e
      intro v A' σ' H' F' fp' st n
      refine P0 v A' H' F' _ (exit_step E0 st) ⟨n.ok, n.nd, n.new, fun b hb z => n.out b hb ?_⟩
      obtain ⟨i, h⟩ := z
      dsimp only at h
      split at h
      · exact ⟨i, h⟩
      · cases h
    | ex c ρ' =>
      cases e
      intro σ' H' F' fp' st
      exact P0 H' F' _ (exit_step E0 st)
    | bk ρ' => cases e
    | ct ρ' => cases e
theorem fn_ok {x qual : Str} {st : Stmt} {f : Addr} {fd : FuncData} {N ps : List Str} {k : Nat} {g : MS} (F : Fun K x qual st f fd) (S : FnScope N ps (defScope st))
    (hb : ∀ (cdv : Value) (A : Around) (outer : List Env) (s : Shared) (H : Hp) (E : XK), Room k (A.deeper (envOfC qual (defScope st) s.heap.objs.size f cdv)) → VSs (cxOf CX0 P w K mg base N qual (defScope st) f cdv A outer s H E).nox W0 (defBody st) g) :
    FnOk P w K mg base CX0 (k + 1) f fd ps (spV K Wx0 ps.length (runF N.length g)) :=
  F.ok S (fun vs H Q E h => h.1) fun cdv A outer s H vs Q E hr h => ⟨_, hb cdv A outer s H E hr, run_ok (CX := CX0) (x := x) (qual := qual) (f := f) (sc := defScope st) (cdv := cdv) (A := A) (outer := outer) (s := s) h⟩
end

noncomputable def argSl (ρ : Rho) : Rv → Option Sl
  | .d x => some (.val x)
  | .o i => match ρ[i]? with
    | some (.own m t) => some (.own m.arg t)
    | _ => none
noncomputable def argSls (ρ : Rho) : List Rv → Option (List Sl)
  | [] => some []
  | r :: rs => match argSl ρ r, argSls ρ rs with
    | some a, some as => some (a :: as)
    | _, _ => none
noncomputable def posOf : List Rv → Nat → Option Nat
  | [], _ => none
  | .o j :: rs, i => if j = i then some 0 else (posOf rs i).map (· + 1)
  | .d _ :: rs, i => (posOf rs i).map (· + 1)
noncomputable def oneEach : List Rv → Bool
  | [] => true
  | .o j :: rs => (posOf rs j).isNone && oneEach rs
  | .d _ :: rs => oneEach rs
noncomputable def allIn (Ts : List Nat) : List Rv → Bool
  | [] => true
  | .o j :: rs => Ts.contains j && allIn Ts rs
  | .d _ :: rs => allIn Ts rs
noncomputable def wb1 (s : Sl) (o : Option Sl) : Sl := match s, o with
  | .own m _, some (.own _ t) => .own m t
  | s, _ => s
noncomputable def wbGo (rs : List Rv) (os : List Sl) : Nat → Rho → Rho
  | _, [] => []
  | i, s :: ρ => (match posOf rs i with
    | some k => wb1 s os[k]?
    | none => s) :: wbGo rs os (i + 1) ρ
noncomputable def wb (ρ : Rho) (rs : List Rv) (os : List Sl) : Rho := wbGo rs os 0 ρ
theorem wbGo_get {rs : List Rv} {os : List Sl} : ∀ {ρ : Rho} {j i : Nat}, (wbGo rs os j ρ)[i]? = (ρ[i]?).map fun s => match posOf rs (j + i) with
    | some k => wb1 s os[k]?
    | none => s
  | [], j, i => by simp [wbGo]
  | s :: ρ, j, 0 => by simp [wbGo]
  | s :: ρ, j, i + 1 => by
    have := wbGo_get (rs := rs) (os := os) (ρ := ρ) (j := j + 1) (i := i)
    show (wbGo rs os (j + 1) ρ)[i]? = _
    rw [this, show j + 1 + i = j + (i + 1) by omega]
    simp
theorem wb_get {rs : List Rv} {os : List Sl} {ρ : Rho} {i : Nat} : (wb ρ rs os)[i]? = (ρ[i]?).map fun s => match posOf rs i with
    | some k => wb1 s os[k]?
    | none => s := by
  have := wbGo_get (rs := rs) (os := os) (ρ := ρ) (j := 0) (i := i)
  rw [Nat.zero_add] at this
  exact this
theorem wbGo_len {rs : List Rv} {os : List Sl} : ∀ {ρ : Rho} {j : Nat}, (wbGo rs os j ρ).length = ρ.length
  | [], _ => rfl
  | _ :: ρ, j => by simp [wbGo, wbGo_len (ρ := ρ)]
theorem posOf_get : ∀ {rs : List Rv} {i k : Nat}, posOf rs i = some k → rs[k]? = some (.o i)
  | [], _, _, h => by simp [posOf] at h
  | .o j :: rs, i, k, h => by
    simp only [posOf] at h
    split at h
    · rename_i e; cases h; subst e; rfl
    · obtain ⟨a, h1, rfl⟩ := map_some h
      simpa using posOf_get h1
  | .d _ :: rs, i, k, h => by
    simp only [posOf] at h
    obtain ⟨a, h1, rfl⟩ := map_some h
    simpa using posOf_get h1
theorem posOf_of : ∀ {rs : List Rv} {i k : Nat}, oneEach rs = true → rs[k]? = some (.o i) → posOf rs i = some k
  | [], _, _, _, h => by simp at h
  | .o j :: rs, i, 0, _, h => by
    simp at h; subst h
    simp [posOf]
  | .o j :: rs, i, k + 1, o, h => by
    simp only [oneEach, Bool.and_eq_true] at o
    have q := posOf_of (k := k) o.2 (by simpa using h)
    have hj : j ≠ i := fun e => by
      subst e
      rw [q] at o
      exact absurd o.1 (by simp)
    simp only [posOf, if_neg hj, q]
    rfl
  | .d _ :: rs, i, 0, _, h => by simp at h
  | .d _ :: rs, i, k + 1, o, h => by
    simp only [oneEach] at o
    have q := posOf_of (k := k) o (by simpa using h)
    simp only [posOf, q]
    rfl
theorem allIn_of {Ts : List Nat} : ∀ {rs : List Rv} {i k : Nat}, allIn Ts rs = true → rs[k]? = some (.o i) → i ∈ Ts
  | [], _, _, _, h => by simp at h
  | .o j :: rs, i, 0, a, h => by
    simp at h; subst h
    simp only [allIn, Bool.and_eq_true] at a
    exact List.contains_iff_mem.mp a.1
  | .o j :: rs, i, k + 1, a, h => by
    simp only [allIn, Bool.and_eq_true] at a
    exact allIn_of (k := k) a.2 (by simpa using h)
  | .d _ :: rs, i, 0, _, h => by simp at h
  | .d _ :: rs, i, k + 1, a, h => by
    simp only [allIn] at a
    exact allIn_of (k := k) a (by simpa using h)
theorem argSls_len {ρ : Rho} : ∀ {rs : List Rv} {as : List Sl}, argSls ρ rs = some as → as.length = rs.length
  | [], _, e => by simp only [argSls] at e; cases e; rfl
  | r :: rs, _, e => by
    simp only [argSls] at e
    split at e
    · rename_i a as h1 h2
      cases e
      simp [argSls_len h2]
    · cases e
theorem argSls_get {ρ : Rho} : ∀ {rs : List Rv} {as : List Sl} {k : Nat} {r : Rv}, argSls ρ rs = some as → rs[k]? = some r → ∃ a, as[k]? = some a ∧ argSl ρ r = some a
  | [], _, _, _, _, h => by simp at h
  | r0 :: rs, _, k, r, e, h => by
    simp only [argSls] at e
    split at e
    · rename_i a as h1 h2
      cases e
      cases k with
      | zero => simp at h; subst h; exact ⟨a, rfl, h1⟩
      | succ k =>
        obtain ⟨b, h3, h4⟩ := argSls_get (k := k) h2 (by simpa using h)
        exact ⟨b, by simpa using h3, h4⟩
    · cases e
theorem rvs_get {K : Fg} {F : Hp} {σ : Sg} {ρ : Rho} : ∀ {vs : List V} {rs : List Rv} {k : Nat} {r : Rv}, RvsOk K F σ ρ vs rs → rs[k]? = some r → ∃ v, vs[k]? = some v ∧ RvOk K F σ ρ v r
  | _, _, _, _, .nil, h => by simp at h
  | _, _, 0, _, .cons a _, h => by simp at h; subst h; exact ⟨_, rfl, a⟩
  | _, _, k + 1, _, .cons _ t, h => by
    obtain ⟨v, h1, h2⟩ := rvs_get (k := k) t (by simpa using h)
    exact ⟨v, by simpa using h1, h2⟩
theorem rvs_len {K : Fg} {F : Hp} {σ : Sg} {ρ : Rho} : ∀ {vs : List V} {rs : List Rv}, RvsOk K F σ ρ vs rs → vs.length = rs.length
  | _, _, .nil => rfl
  | _, _, .cons _ t => by simp [rvs_len t]
noncomputable def fpArgs (rs : List Rv) (fp : FP) : FP := fun k => match rs[k]? with
  | some (.o i) => fp i
  | _ => []
theorem sg_map {vs : List V} {k : Nat} {v : V} (h : vs[k]? = some v) : sg (vs.map some) k = some v := by
  unfold sg
  rw [List.getElem?_map, h]
  rfl
section
variable {K : Fg} {F H : Hp} {σ : Sg} {ρ : Rho} {fp : FP} {vs : List V} {rs : List Rv} {args : List Sl}
theorem mem_fpArgs {k : Nat} {b : Addr} (h : b ∈ fpArgs rs fp k) : ∃ i, rs[k]? = some (.o i) ∧ b ∈ fp i := by
  unfold fpArgs at h
  split at h
  · rename_i i hi; exact ⟨i, hi, h⟩
  · cases h
theorem args_env (E : EnvOk K F H σ ρ fp) (r : RvsOk K F σ ρ vs rs) (ha : argSls ρ rs = some args) (ho : oneEach rs = true) : EnvOk K F H (vs.map some) args (fpArgs rs fp) := by
  have hl := argSls_len ha
  have hv := rvs_len r
  refine ⟨E.sub, by rw [List.length_map]; omega, fun k s hs => ?_, fun k hk => ?_, fun k => ?_, fun k l b h1 h2 => ?_, E.tb, fun j i p t h1 h2 => ?_⟩
  rotate_left 4
  · exfalso
    have hj : j < rs.length := by have := (List.getElem?_eq_some_iff.mp h1).1; omega
    obtain ⟨a, g1, g2⟩ := argSls_get ha (List.getElem?_eq_getElem hj)
    rw [h1] at g1; cases g1
    cases hr : rs[j] with
    | d x => rw [hr] at g2; simp only [argSl] at g2; cases g2
    | o i => rw [hr] at g2; simp only [argSl] at g2; split at g2 <;> cases g2
  · have hk : k < rs.length := by have := (List.getElem?_eq_some_iff.mp hs).1; omega
    obtain ⟨a, h1, h2⟩ := argSls_get ha (List.getElem?_eq_getElem hk)
    rw [h1] at hs; cases hs
    obtain ⟨v, h3, h4⟩ := rvs_get r (List.getElem?_eq_getElem hk)
    rw [sg_map h3]
    unfold fpArgs
    rw [List.getElem?_eq_getElem hk]
    cases hr : rs[k] with
    | d x =>
      rw [hr] at h2 h4
      simp only [argSl] at h2
      cases h2
      exact ⟨v, rfl, h4⟩
    | o i =>
      rw [hr] at h2 h4
      obtain ⟨hu, m, t, e⟩ := h4
      simp only [argSl, e] at h2
      cases h2
      obtain ⟨u, e1, e2⟩ := E.sl i _ e
      rw [hu] at e1; cases e1
      exact ⟨v, rfl, e2⟩
  · unfold fpArgs
    split
    · rename_i i hi
      exfalso
      obtain ⟨a, h1, h2⟩ := argSls_get ha hi
      simp only [argSl] at h2
      split at h2
      · rename_i m t e
        cases h2
        exact hk _ t h1
      · cases h2
    · rfl
  · unfold fpArgs
    split
    · exact E.nd _
    · exact List.nodup_nil
  · obtain ⟨i, hi, hb⟩ := mem_fpArgs h1
    obtain ⟨j, hj, hb'⟩ := mem_fpArgs h2
    have e := E.ap i j b hb hb'
    subst e
    have a := posOf_of ho hi
    have c := posOf_of ho hj
    rw [a] at c
    exact Option.some.inj c
noncomputable def fpBack (rs : List Rv) (fp fpA : FP) : FP := fun i => match posOf rs i with
  | some k => fpA k
  | none => fp i
theorem call_step {F' H' : Hp} {fpA : FP} {os : List Sl} {Ts : List Nat} (E : EnvOk K F H σ ρ fp) (r : RvsOk K F σ ρ vs rs) (ha : argSls ρ rs = some args) (ho : oneEach rs = true) (hT : allIn Ts rs = true)
    (s : Step K F H (vs.map some) args (fpArgs rs fp) F' H' (vs.map some) os fpA) (hos : ∀ (k : Nat) m t, args[k]? = some (Sl.own m t) → ∃ m' t', os[k]? = some (Sl.own m' t')) :
    EStep K Ts F H σ ρ fp F' H' (wb ρ rs os) (fpBack rs fp fpA) := by
  have oA : ∀ {b}, Owns (fpArgs rs fp) b → Owns fp b := fun {b} ⟨k, h⟩ => let ⟨i, _, hb⟩ := mem_fpArgs h; ⟨i, hb⟩
  -- at a slot that is handed in
  have inn : ∀ (i k : Nat), posOf rs i = some k → ∃ m t v m' t', ρ[i]? = some (Sl.own m t) ∧ sg σ i = some v ∧ vs[k]? = some v ∧ args[k]? = some (Sl.own m.arg t) ∧ os[k]? = some (Sl.own m' t') ∧ (wb ρ rs os)[i]? = some (Sl.own m t') ∧ TrOk K F' H' v t' (fpA k) := by
    intro i k hp
    have hk := posOf_get hp
    obtain ⟨v, h1, hu, m, t, e⟩ := rvs_get r hk
    obtain ⟨a, h2, h3⟩ := argSls_get ha hk
    simp only [argSl, e] at h3
    cases h3
    obtain ⟨m', t', h4⟩ := hos k _ t h2
    obtain ⟨u, e1, e2⟩ := s.env.sl k _ h4
    rw [sg_map h1] at e1; cases e1
    refine ⟨m, t, v, m', t', e, hu, h1, h2, h4, ?_, e2⟩
    rw [wb_get, e]
    simp only [Option.map_some, hp, h4, wb1]
  have outT : ∀ (i : Nat), posOf rs i = none → ∀ b ∈ fp i, H' b = H b ∧ F' b = none := by
    intro i hp b hb
    have hn : ¬ Owns (fpArgs rs fp) b := fun ⟨k, h⟩ => by
      obtain ⟨j, hj, hb'⟩ := mem_fpArgs h
      have e := E.ap i j b hb hb'
      subst e
      rw [posOf_of ho hj] at hp
      cases hp
    obtain ⟨h1, h2⟩ := E.there ⟨i, hb⟩
    constructor
    · cases q : H b with
      | none => exact absurd q h1
      | some o => exact s.frame b o q hn fun ps z => E.ntb ⟨i, hb⟩ ps (z ▸ q)
    · cases q : F' b with
      | none => rfl
      | some o =>
        rcases s.nf b h2 (by rw [q]; exact fun z => nomatch z) with z | z | z
        · exact absurd z h1
        · exact absurd z hn
        · exact absurd z (E.nkt ⟨i, hb⟩)
  have get0 : ∀ (i : Nat), posOf rs i = none → (wb ρ rs os)[i]? = ρ[i]? := by
    intro i hp
    rw [wb_get]
    cases ρ[i]? with
    | none => rfl
    | some x => simp [hp]
  refine ⟨⟨⟨s.env.sub, ?_, fun i u hu => ?_, fun i hi => ?_, fun i => ?_, fun i j b h1 h2 => ?_, s.env.tb, E.al' (fun j i p h => ?_) fun i p t h => ?_⟩, s.fr, fun b h h' => (s.nf b h h').imp_right (Or.imp_left oA), s.dom, fun b o h n => s.frame b o h (fun z => n (oA z)), fun b hb => ?_, fun i m t h hm => ?_, fun i t h => ?_⟩, fun i m t h => ?_, fun i hi => ?_⟩
  rotate_left 5
  · cases hp : posOf rs j with
    | some k =>
      obtain ⟨m, t, v, m', t', e1, e2, e3, e4, e5, e6, e7⟩ := inn j k hp
      rw [e6] at h; cases h
    | none => rw [get0 j hp] at h; exact ⟨h, rfl⟩
  · cases hp : posOf rs i with
    | some k =>
      obtain ⟨m, t0, v, m', t', e1, e2, e3, e4, e5, e6, e7⟩ := inn i k hp
      rw [e6] at h; cases h
      obtain ⟨_, l1, l2, l3⟩ := s.lock k t0 e4
      rw [l1] at e5; cases e5
      have ek : fpArgs rs fp k = fp i := by unfold fpArgs; rw [posOf_get hp]
      exact ⟨e1, rfl, fun b hb => l3 b (by rw [ek]; exact hb)⟩
    | none => rw [get0 i hp] at h; exact ⟨h, rfl, fun b hb => (outT i hp b hb).1⟩
  rotate_right 5
  · unfold wb; rw [wbGo_len]; exact E.len
  · cases hp : posOf rs i with
    | some k =>
      obtain ⟨m, t, v, m', t', e1, e2, e3, e4, e5, e6, e7⟩ := inn i k hp
      rw [e6] at hu; cases hu
      unfold fpBack
      rw [hp, e2]
      exact ⟨v, rfl, e7⟩
    | none =>
      rw [get0 i hp] at hu
      unfold fpBack
      rw [hp]
      have q := E.sl i u hu
      cases u with
      | no => trivial
      | al _ _ => trivial
      | val d => obtain ⟨v, e1, e2⟩ := q; exact ⟨v, e1, dq_mono s.fr _ _ e2⟩
      | own m t => obtain ⟨v, e1, e2⟩ := q; exact ⟨v, e1, e2.move s.fr (outT i hp)⟩
  · unfold fpBack
    cases hp : posOf rs i with
    | some k =>
      obtain ⟨m, t, v, m', t', e1, e2, e3, e4, e5, e6, e7⟩ := inn i k hp
      exact absurd e6 (hi m t')
    | none =>
      refine E.nil i fun m t z => hi m t ?_
      rw [get0 i hp]; exact z
  · unfold fpBack
    split
    · exact s.env.nd _
    · exact E.nd i
  · have cross : ∀ (i j k : Nat), posOf rs i = some k → posOf rs j = none → b ∈ fpA k → b ∈ fp j → False := by
      intro i j k hi hj h1 h2
      rcases s.own b ⟨k, h1⟩ with ⟨l, z⟩ | z
      · obtain ⟨i', hi', hb'⟩ := mem_fpArgs z
        have e := E.ap j i' b h2 hb'
        subst e
        rw [posOf_of ho hi'] at hj
        cases hj
      · exact (E.there ⟨j, h2⟩).1 z
    unfold fpBack at h1 h2
    cases hi : posOf rs i with
    | some k =>
      rw [hi] at h1
      cases hj : posOf rs j with
      | some l =>
        rw [hj] at h2
        have e := s.env.ap k l b h1 h2
        subst e
        have a := posOf_get hi
        have c := posOf_get hj
        rw [a] at c
        cases c
        rfl
      | none => rw [hj] at h2; exact (cross i j k hi hj h1 h2).elim
    | none =>
      rw [hi] at h1
      cases hj : posOf rs j with
      | some l => rw [hj] at h2; exact (cross j i l hj hi h2 h1).elim
      | none => rw [hj] at h2; exact E.ap i j b h1 h2
  · obtain ⟨i, h⟩ := hb
    unfold fpBack at h
    cases hi : posOf rs i with
    | some k => rw [hi] at h; exact (s.own b ⟨k, h⟩).imp_left oA
    | none => rw [hi] at h; exact .inl ⟨i, h⟩
  · cases hp : posOf rs i with
    | some k =>
      obtain ⟨m0, t0, v, m', t', e1, e2, e3, e4, e5, e6, e7⟩ := inn i k hp
      rw [h] at e1; cases e1
      exact ⟨rfl, _, t', e6, hm⟩
    | none => exact ⟨rfl, m, t, by rw [get0 i hp]; exact h, hm⟩
  · cases hp : posOf rs i with
    | some k =>
      obtain ⟨m, t0, v, m', t', e1, e2, e3, e4, e5, e6, e7⟩ := inn i k hp
      rw [h] at e1; cases e1
      obtain ⟨_, l1, l2, l3⟩ := s.lock k t e4
      rw [l1] at e5; cases e5
      have ek : fpArgs rs fp k = fp i := by unfold fpArgs; rw [posOf_get hp]
      refine ⟨rfl, e6, ?_, fun b hb => l3 b (by rw [ek]; exact hb)⟩
      unfold fpBack
      rw [hp]
      exact l2.trans ek
    | none =>
      refine ⟨rfl, by rw [get0 i hp]; exact h, ?_, fun b hb => (outT i hp b hb).1⟩
      unfold fpBack
      rw [hp]
  · cases hp : posOf rs i with
    | some k =>
      obtain ⟨m0, t0, v, m', t', e1, e2, e3, e4, e5, e6, e7⟩ := inn i k hp
      rw [h] at e1; cases e1
      exact ⟨t', e6⟩
    | none => exact ⟨t, by rw [get0 i hp]; exact h⟩
  · cases hp : posOf rs i with
    | some k => exact absurd (allIn_of hT (posOf_get hp)) hi
    | none =>
      refine ⟨get0 i hp, ?_, fun b hb => (outT i hp b hb).1⟩
      unfold fpBack
      rw [hp]
theorem call_new {F' H' : Hp} {fpA : FP} {v : V} {t : Tr} {A : List Addr} (E : EnvOk K F H σ ρ fp) (ho : oneEach rs = true) (n : NewOk K H (fpArgs rs fp) F' H' fpA v t A) : NewOk K H fp F' H' (fpBack rs fp fpA) v t A := by
  refine ⟨n.ok, n.nd, fun b hb => (n.new b hb).imp_right fun ⟨k, h⟩ => let ⟨i, _, z⟩ := mem_fpArgs h; ⟨i, z⟩, fun b hb z => ?_⟩
  obtain ⟨i, h⟩ := z
  unfold fpBack at h
  cases hp : posOf rs i with
  | some k => rw [hp] at h; exact n.out b hb ⟨k, h⟩
  | none =>
    rw [hp] at h
    rcases n.new b hb with z | ⟨k, z⟩
    · exact (E.there ⟨i, h⟩).1 z
    · obtain ⟨j, hj, hb'⟩ := mem_fpArgs z
      have e := E.ap i j b h hb'
      subst e
      rw [posOf_of ho hj] at hp
      cases hp
end
noncomputable def backOk : List Sl → List Sl → Bool
  | [], _ => true
  | .own _ _ :: as, .own _ _ :: os => backOk as os
  | .own _ _ :: _, _ => false
  | _ :: as, _ :: os => backOk as os
  | _ :: _, [] => false
theorem backOk_get : ∀ {as os : List Sl} {k : Nat} {m : Md} {t : Tr}, backOk as os = true → as[k]? = some (.own m t) → ∃ m' t', os[k]? = some (.own m' t')
  | [], _, _, _, _, _, h => by simp at h
  | .own m0 t0 :: as, .own m1 t1 :: os, 0, _, _, _, _ => ⟨m1, t1, rfl⟩
  | .own m0 t0 :: as, .own m1 t1 :: os, k + 1, _, _, b, h => by
    simp only [backOk] at b
    obtain ⟨m', t', e⟩ := backOk_get (k := k) b (by simpa using h)
    exact ⟨m', t', by simpa using e⟩
  | .own _ _ :: _, .no :: _, _, _, _, b, _ => by simp [backOk] at b
  | .own _ _ :: _, .val _ :: _, _, _, _, b, _ => by simp [backOk] at b
  | .own _ _ :: _, .al _ _ :: _, _, _, _, b, _ => by simp [backOk] at b
  | .own _ _ :: _, [], _, _, _, b, _ => by simp [backOk] at b
  | .al _ _ :: as, o :: os, 0, _, _, _, h => by simp at h
  | .al _ _ :: as, o :: os, k + 1, _, _, b, h => by
    have b' : backOk as os = true := by cases o <;> simpa [backOk] using b
    obtain ⟨m', t', e⟩ := backOk_get (k := k) b' (by simpa using h)
    exact ⟨m', t', by simpa using e⟩
  | .al _ _ :: _, [], _, _, _, b, _ => by simp [backOk] at b
  | .no :: as, o :: os, 0, _, _, _, h => by simp at h
  | .val _ :: as, o :: os, 0, _, _, _, h => by simp at h
  | .no :: as, o :: os, k + 1, _, _, b, h => by
    have b' : backOk as os = true := by cases o <;> simpa [backOk] using b
    obtain ⟨m', t', e⟩ := backOk_get (k := k) b' (by simpa using h)
    exact ⟨m', t', by simpa using e⟩
  | .val _ :: as, o :: os, k + 1, _, _, b, h => by
    have b' : backOk as os = true := by cases o <;> simpa [backOk] using b
    obtain ⟨m', t', e⟩ := backOk_get (k := k) b' (by simpa using h)
    exact ⟨m', t', by simpa using e⟩
  | .no :: _, [], _, _, _, b, _ => by simp [backOk] at b
  | .val _ :: _, [], _, _, _, b, _ => by simp [backOk] at b
noncomputable def callN (Ts : List Nat) (m : Nat) (f : Fn) (rs : List Rv) : M Tr := fun ρ => match argSls ρ rs with
  | some args => if decide (rs.length = m) && (oneEach rs && allIn Ts rs) then (match f args with
    | some (.ret t, outs) => if backOk args (mrg args outs) then some (.ok t (wb ρ rs (mrg args outs))) else none
    | _ => none) else none
  | none => none
noncomputable def nCall (Ts : List Nat) (m : Nat) (f : Fn) (fs : M (List Rv)) : M Tr := bnd fs (callN Ts m f)
section
variable {X : Cx} {T : List Nat} {W : WV} {k m : Nat} {f : Addr} {fd : FuncData} {ps : List Str} {F : Fn} {x : Str} {p pos : Pos} {e : Expr} {es : List Expr} {fs : M (List Rv)} {Ts : List Nat}
theorem vn_call (G : FnOk X.prog X.w X.K X.mg X.base CX0 k f fd ps (spV X.K Wx0 m F)) (hr : Room k X.A) (hg : Gl X x) (hm : X.mg x = some (.ref f)) (hk : PySem.W.keepIn X.K (.ref f) = true) (hb : Binds X.K fd ps [])
    (ha : VA X T W (e :: es) fs) (hdb : (x == ("__debug__" : Str)) = false := by decide) (he : starEach (e :: es) X.env = (false, eval e X.env) :: starEach es X.env := by rfl) (hpl : (backTo pos (starEach es X.env)).any (·.1) = false := by rfl) :
    VN X (T ++ Ts) W (.Call (.Name x p) (e :: es) [] pos) (nCall Ts m F fs) :=
  pe_imp (pe_call G hr hg hm hk hb .nil pass0 ha hdb he hpl) fun σ H Q ⟨F0, ρ, fp, o, E, q, P⟩ => by
    refine tv_bnd (T := T) E q P (fun i hi => List.mem_append_left _ hi) fun rs ρ1 vs H1 F1 fp1 s1 r1 e1 P1 => ?_
    rw [List.append_nil]
    unfold callN at e1
    split at e1
    · rename_i args hargs
      split at e1
      · rename_i ho
        rw [Bool.and_eq_true, Bool.and_eq_true] at ho
        split at e1
        · rename_i t outs hf
          split at e1
          · rename_i hbk
            cases ok_inj e1
            refine ⟨?_, F1, args, fpArgs rs fp1, _, outs, args_env s1.env r1 hargs ho.2.1, hf, fun v A H' F' fp' st n => ?_⟩
            · rw [rvs_len r1]; exact of_decide_eq_true ho.1
            · have s2 := call_step (Ts := Ts) s1.env r1 hargs ho.2.1 ho.2.2 st fun k m t h => backOk_get hbk h
              exact P1 v H' F' _ (s2.sub fun i hi => List.mem_append_right _ hi) ⟨A, call_new s1.env ho.2.1 n⟩
          · cases e1
        · cases e1
      · cases e1
    · cases e1
end
end VL

end

section
set_option Elab.async false
set_option linter.all false
set_option maxRecDepth 100000
namespace VL
open PySem PySem.Spec PyProof.Rows L2

section
variable {X : Cx} {T : List Nat} {W : WV} {pos : Pos}
noncomputable def iEnumD (f : M (List Rv)) : M (List PyData) := bnd f fun rs => fun ρ => match rs with
  | [.d (.list xs)] => some (.ok (enumD xs) ρ)
  | [.d (.tuple xs)] => some (.ok (enumD xs) ρ)
  | _ => none
end

noncomputable def zipD (xs ys : List PyData) : List PyData := (xs.zip ys).map fun p => .tuple [p.1, p.2]
section
variable {X : Cx} {T : List Nat} {W : WV} {pos : Pos}
noncomputable def iZipD (f : M (List Rv)) : M (List PyData) := bnd f fun rs => fun ρ => match rs with
  | [.d (.list xs), .d (.list ys)] => some (.ok (zipD xs ys) ρ)
  | [.d (.tuple xs), .d (.tuple ys)] => some (.ok (zipD xs ys) ρ)
  | _ => none
end
end VL

end

section
set_option Elab.async false
set_option linter.all false
set_option maxRecDepth 100000
namespace VL
open PySem PySem.Spec PyProof.Rows L2

noncomputable def wipeR (ρ : Rho) : List Nat → Rho
  | [] => ρ
  | i :: vs => (wipeR ρ vs).set i .no
noncomputable def noOwn (ρ : Rho) : List Nat → Bool
  | [] => true
  | i :: vs => (match ρ[i]? with
    | some (.own _ _) => false
    | some (.al _ _) => false
    | _ => true) && noOwn ρ vs
noncomputable def restR (ρ0 ρ : Rho) : List Nat → Rho
  | [] => ρ
  | i :: vs => match ρ0[i]? with
    | some s => (restR ρ0 ρ vs).set i s
    | none => restR ρ0 ρ vs
noncomputable def compGo (vs : List Nat) (G : MG) (tt : M Bool) (te : M Rv) : List PyData → List PyData → Rho → Option (List PyData × Rho)
  | [], acc, ρ => some (acc, ρ)
  | x :: xs, acc, ρ => match G x ρ with
    | none => none
    | some ρ1 => match tt ρ1 with
      | some (.ok true ρ2) => (match te ρ2 with
        | some (.ok (.d d) ρ3) => if small (acc.length + 1) && noOwn ρ3 vs then compGo vs G tt te xs (acc ++ [d]) (wipeR ρ3 vs) else none
        | _ => none)
      | some (.ok false ρ2) => if noOwn ρ2 vs then compGo vs G tt te xs acc (wipeR ρ2 vs) else none
      | _ => none
noncomputable def comp1 (vs : List Nat) (G : MG) (tt : M Bool) (te : M Rv) (xs : List PyData) : M Tr := fun ρ =>
  if noOwn ρ vs then (match compGo vs G tt te xs [] (wipeR ρ vs) with
    | some (ds, ρ') => if noOwn ρ' vs then some (.ok (.lst (ds.map .dat)) (restR ρ ρ' vs)) else none
    | none => none) else none
noncomputable def nComp (fi : M (List PyData)) (vs : List Nat) (G : MG) (tt : M Bool) (te : M Rv) : M Tr := bnd fi (comp1 vs G tt te)
noncomputable def tYesM : M Bool := ret true

theorem wipeR_len {ρ : Rho} : ∀ {vs : List Nat}, (wipeR ρ vs).length = ρ.length
  | [] => rfl
  | i :: vs => by unfold wipeR; rw [List.length_set, wipeR_len (vs := vs)]
theorem wipeR_out {ρ : Rho} {j : Nat} : ∀ {vs : List Nat}, j ∉ vs → (wipeR ρ vs)[j]? = ρ[j]?
  | [], _ => rfl
  | i :: vs, h => by
    unfold wipeR
    rw [List.getElem?_set_ne fun z => h (by simp [z])]
    exact wipeR_out fun z => h (List.mem_cons_of_mem _ z)
theorem wipeR_in {ρ : Rho} {j : Nat} {s : Sl} : ∀ {vs : List Nat}, j ∈ vs → (wipeR ρ vs)[j]? = some s → s = .no
  | i :: vs, h, e => by
    unfold wipeR at e
    by_cases hij : i = j
    · subst hij
      by_cases hl : i < (wipeR ρ vs).length
      · rw [List.getElem?_set_self hl] at e; exact (Option.some.inj e).symm
      · rw [List.getElem?_eq_none (by simpa using hl)] at e; cases e
    · rw [List.getElem?_set_ne hij] at e
      rcases List.mem_cons.mp h with z | z
      · exact absurd z.symm hij
      · exact wipeR_in z e
theorem noOwn_get {ρ : Rho} {j : Nat} : ∀ {vs : List Nat}, noOwn ρ vs = true → j ∈ vs → ∀ m t, ρ[j]? ≠ some (.own m t)
  | i :: vs, h, hj, m, t, e => by
    unfold noOwn at h
    rw [Bool.and_eq_true] at h
    rcases List.mem_cons.mp hj with z | z
    · subst z
      rw [e] at h
      exact absurd h.1 Bool.false_ne_true
    · exact noOwn_get h.2 z m t e
theorem noOwn_al {ρ : Rho} {j : Nat} : ∀ {vs : List Nat}, noOwn ρ vs = true → j ∈ vs → ∀ i p, ρ[j]? ≠ some (.al i p)
  | i :: vs, h, hj, m, t, e => by
    unfold noOwn at h
    rw [Bool.and_eq_true] at h
    rcases List.mem_cons.mp hj with z | z
    · subst z
      rw [e] at h
      exact absurd h.1 Bool.false_ne_true
    · exact noOwn_al h.2 z m t e
theorem restR_len {ρ0 ρ : Rho} : ∀ {vs : List Nat}, (restR ρ0 ρ vs).length = ρ.length
  | [] => rfl
  | i :: vs => by
    unfold restR
    split
    · rw [List.length_set, restR_len (vs := vs)]
    · exact restR_len (vs := vs)
theorem restR_out {ρ0 ρ : Rho} {j : Nat} : ∀ {vs : List Nat}, j ∉ vs → (restR ρ0 ρ vs)[j]? = ρ[j]?
  | [], _ => rfl
  | i :: vs, h => by
    unfold restR
    split
    · rw [List.getElem?_set_ne fun z => h (by simp [z])]
      exact restR_out fun z => h (List.mem_cons_of_mem _ z)
    · exact restR_out fun z => h (List.mem_cons_of_mem _ z)
theorem restR_in {ρ0 ρ : Rho} {j : Nat} (hl : ρ0.length = ρ.length) : ∀ {vs : List Nat}, j ∈ vs → (restR ρ0 ρ vs)[j]? = ρ0[j]?
  | i :: vs, h => by
    unfold restR
    by_cases hij : i = j
    · subst hij
      cases q : ρ0[i]? with
      | some s =>
        have hi := (List.getElem?_eq_some_iff.mp q).1
        simp only
        rw [List.getElem?_set_self (by rw [restR_len]; omega)]
      | none =>
        simp only
        rw [List.getElem?_eq_none_iff] at q
        rw [List.getElem?_eq_none (by rw [restR_len]; omega)]
    · have hj : j ∈ vs := by
        rcases List.mem_cons.mp h with z | z
        · exact absurd z.symm hij
        · exact z
      split
      · rw [List.getElem?_set_ne hij]
        exact restR_in hl hj
      · exact restR_in hl hj
theorem wipe_out {σ : Sg} {j : Nat} : ∀ {vs : List Nat}, j ∉ vs → sg (wipe σ vs) j = sg σ j
  | [], _ => rfl
  | i :: vs, h => by
    unfold wipe
    rw [sg_set_ne fun z => h (by simp [z])]
    exact wipe_out fun z => h (List.mem_cons_of_mem _ z)
theorem get_of_sg {σ σ' : Sg} (hl : σ'.length = σ.length) {j : Nat} (h : sg σ' j = sg σ j) : σ'[j]? = σ[j]? := by
  unfold sg at h
  by_cases hj : j < σ.length
  · rw [List.getElem?_eq_getElem hj, List.getElem?_eq_getElem (by omega)] at h ⊢
    simpa using h
  · rw [List.getElem?_eq_none (by omega), List.getElem?_eq_none (by omega)]
theorem wipe_get {σ : Sg} {j : Nat} : ∀ {vs : List Nat}, (wipe σ vs)[j]? = if j ∈ vs ∧ j < σ.length then some none else σ[j]?
  | [] => by simp [wipe]
  | i :: vs => by
    unfold wipe
    by_cases hij : i = j
    · subst hij
      by_cases hl : i < σ.length
      · rw [List.getElem?_set_self (by rw [wipe_length]; exact hl), if_pos ⟨by simp, hl⟩]
      · rw [if_neg fun z => hl z.2, List.getElem?_eq_none (by rw [List.length_set, wipe_length]; omega), List.getElem?_eq_none (by omega)]
    · rw [List.getElem?_set_ne hij, wipe_get (vs := vs)]
      have e : (j ∈ i :: vs ∧ j < σ.length) ↔ (j ∈ vs ∧ j < σ.length) := by simp [Ne.symm hij]
      by_cases h : j ∈ vs ∧ j < σ.length
      · rw [if_pos h, if_pos (e.mpr h)]
      · rw [if_neg h, if_neg fun z => h (e.mp z)]
theorem wipe_same {σ σ' : Sg} {vs : List Nat} (hl : σ'.length = σ.length) (h : ∀ j, j ∉ vs → sg σ' j = sg σ j) : wipe σ' vs = wipe σ vs := by
  apply List.ext_getElem?
  intro j
  rw [wipe_get, wipe_get, hl]
  by_cases hj : j ∈ vs ∧ j < σ.length
  · rw [if_pos hj, if_pos hj]
  · rw [if_neg hj, if_neg hj]
    by_cases hv : j ∈ vs
    · have hlt : ¬ j < σ.length := fun z => hj ⟨hv, z⟩
      rw [List.getElem?_eq_none (by omega), List.getElem?_eq_none (by omega)]
    · exact get_of_sg hl (h j hv)
noncomputable def hid (H : Hp) (D : Addr) : Hp := fun b => if b = D then none else H b
theorem hid_ne {H : Hp} {D b : Addr} (h : b ≠ D) : hid H D b = H b := by unfold hid; rw [if_neg h]
theorem hid_at {H : Hp} {D : Addr} : hid H D D = none := by unfold hid; rw [if_pos rfl]
theorem hid_some {H : Hp} {D b : Addr} {o : HO} (h : hid H D b = some o) : b ≠ D ∧ H b = some o := by
  by_cases e : b = D
  · subst e; rw [hid_at] at h; cases h
  · exact ⟨e, by rw [hid_ne e] at h; exact h⟩
theorem hid_upd {H : Hp} {D : Addr} {o : HO} : hid (upd H D o) D = hid H D := by
  funext b
  by_cases e : b = D
  · subst e; rw [hid_at, hid_at]
  · rw [hid_ne e, hid_ne e, upd_ne e]
theorem hid_free {H : Hp} {D : Addr} (h : H D = none) : hid H D = H := by
  funext b
  by_cases e : b = D
  · subst e; rw [hid_at, h]
  · rw [hid_ne e]
section
variable {K : Fg} {F H F' H' : Hp} {σ σ' : Sg} {ρ ρ' : Rho} {fp fp' : FP} {D : Addr} {vs : List Nat}
theorem env_hid (E : EnvOk K F H σ ρ fp) (hF : F D = none) (hO : ¬ Owns fp D) (hD : ∀ ps, H D ≠ some (.tbl ps)) : EnvOk K F (hid H D) σ ρ fp := by
  refine ⟨fun b o e => ?_, E.len, fun i s h => ?_, E.nil, E.nd, E.ap, E.tb.mono (Same.refl _) fun P ps h1 h2 => ⟨h2, hid_ne fun z => by subst z; exact hD ps h1⟩, E.al' (fun _ _ _ h => ⟨h, rfl⟩) fun i _ _ h => ⟨h, rfl, fun b hb => hid_ne fun z => by subst z; exact hO ⟨i, hb⟩⟩⟩
  · rw [hid_ne fun z => by subst z; rw [hF] at e; cases e]
    exact E.sub b o e
  · have q := E.sl i s h
    cases s with
    | no => trivial
    | al _ _ => trivial
    | val d => exact q
    | own m t =>
      obtain ⟨u, e1, e2⟩ := q
      exact ⟨u, e1, e2.move (Same.refl _) fun b hb => ⟨hid_ne fun z => by subst z; exact hO ⟨i, hb⟩, (e2.mem b hb).2⟩⟩
theorem env_show (E : EnvOk K F (hid H D) σ ρ fp) : EnvOk K F H σ ρ fp := by
  refine ⟨fun b o e => (hid_some (E.sub b o e)).2, E.len, fun i s h => ?_, E.nil, E.nd, E.ap, E.tb.mono (Same.refl _) fun P ps h1 h2 => ⟨h2, (hid_some h1).2.trans h1.symm⟩, E.al' (fun _ _ _ h => ⟨h, rfl⟩) fun i _ _ h => ⟨h, rfl, fun b hb => by
    cases z : hid H D b with
    | none => exact absurd z (E.there ⟨i, hb⟩).1
    | some o => exact (hid_some z).2⟩⟩
  have q := E.sl i s h
  cases s with
  | no => trivial
  | al _ _ => trivial
  | val d => exact q
  | own m t =>
    obtain ⟨u, e1, e2⟩ := q
    refine ⟨u, e1, e2.move (Same.refl _) fun b hb => ⟨?_, (e2.mem b hb).2⟩⟩
    cases z : hid H D b with
    | none => exact absurd z (e2.mem b hb).1
    | some o => exact (hid_some z).2
theorem step_keeps (s : Step K F H σ ρ fp F' H' σ' ρ' fp') {o : HO} (hD : H D = some o) (hF : F D = none) (hO : ¬ Owns fp D) (hn : ∀ ps, o ≠ .tbl ps := by exact fun _ z => nomatch z) (hk : ∀ ks : List Key, o ≠ .tup (ks.map kV) := by exact fun _ z => nomatch z) : H' D = some o ∧ F' D = none ∧ ¬ Owns fp' D := by
  refine ⟨s.frame D o hD hO hn, ?_, fun z => ?_⟩
  · cases q : F' D with
    | none => rfl
    | some u =>
      rcases s.nf D hF (by rw [q]; exact fun z => nomatch z) with z | z | ⟨ks, z⟩ | ⟨ps, z⟩
      · rw [hD] at z; cases z
      · exact absurd z hO
      · rw [hD] at z; exact absurd (Option.some.inj z) (hk ks)
      · rw [hD] at z; exact absurd (Option.some.inj z) (hn ps)
  · rcases s.own D z with z | z
    · exact hO z
    · rw [hD] at z; cases z
theorem step_hid (s : Step K F H σ ρ fp F' H' σ' ρ' fp') (hF : F' D = none) (hO : ¬ Owns fp' D) (hn : ∀ ps, H' D ≠ some (.tbl ps)) : Step K F (hid H D) σ ρ fp F' (hid H' D) σ' ρ' fp' := by
  refine ⟨env_hid s.env hF hO hn, s.fr, fun b h h' => ?_, fun b h => ?_, fun b o h n nt => ?_, fun b h => (s.own b h).imp_right fun z => ?_, s.pin, fun i t h => ?_⟩
  · by_cases e : b = D
    · subst e; exact .inl hid_at
    · unfold KT
      rw [hid_ne e]; exact s.nf b h h'
  · by_cases e : b = D
    · subst e; exact hid_at
    · rw [hid_ne e] at h ⊢; exact s.dom b h
  · obtain ⟨e, h⟩ := hid_some h
    rw [hid_ne e]
    exact s.frame b o h n nt
  · by_cases e : b = D
    · subst e; exact hid_at
    · rw [hid_ne e]; exact z
  · obtain ⟨a, b, c, d⟩ := s.lock i t h
    refine ⟨a, b, c, fun x hx => ?_⟩
    by_cases e : x = D
    · subst e; rw [hid_at, hid_at]
    · rw [hid_ne e, hid_ne e]; exact d x hx
theorem wipe_step {σin : Sg} (E : EnvOk K F H σ ρ fp) (hn : noOwn ρ vs = true) (hl : σin.length = σ.length) (hs : ∀ i, i ∉ vs → sg σin i = sg σ i) : Step K F H σ ρ fp F H σin (wipeR ρ vs) fp := by
  have own : ∀ {i m t}, (wipeR ρ vs)[i]? = some (Sl.own m t) → i ∉ vs ∧ ρ[i]? = some (Sl.own m t) := fun {i m t} h => by
    by_cases hi : i ∈ vs
    · exact nomatch wipeR_in hi h
    · exact ⟨hi, by rw [wipeR_out hi] at h; exact h⟩
  have out : ∀ {i m t}, ρ[i]? = some (Sl.own m t) → i ∉ vs := fun {i m t} h hi => noOwn_get hn hi m t h
  refine ⟨⟨E.sub, by rw [wipeR_len, hl]; exact E.len, fun i s h => ?_, fun i h => ?_, E.nd, E.ap, E.tb, E.al' (fun j i p h => ?_) fun i p t h => ?_⟩, Same.refl _, fun _ h h' => absurd h h', fun _ h => h, fun _ _ h _ _ => h, fun _ h => .inl h, fun i m t h hm => ?_, fun i t h => ?_⟩
  rotate_left 2
  · by_cases hi : j ∈ vs
    · exact nomatch wipeR_in hi h
    · rw [wipeR_out hi] at h; exact ⟨h, hs j hi⟩
  · exact ⟨(own h).2, hs i (own h).1, fun _ _ => rfl⟩
  rotate_right 2
  · by_cases hi : i ∈ vs
    · have := wipeR_in hi h
      subst this
      trivial
    · rw [wipeR_out hi] at h
      rw [hs i hi]
      exact E.sl i s h
  · refine E.nil i fun m t z => h m t ?_
    rw [wipeR_out (out z)]
    exact z
  · exact ⟨hs i (out h), m, t, by rw [wipeR_out (out h)]; exact h, hm⟩
  · exact ⟨hs i (out h), by rw [wipeR_out (out h)]; exact h, rfl, fun _ _ => rfl⟩
end
structure Blk (K : Fg) (T vs : List Nat) (F H : Hp) (σ : Sg) (ρ : Rho) (fp : FP) (F' H' : Hp) (σ' : Sg) (ρ' : Rho) (fp' : FP) : Prop where
  st : Step K F H σ ρ fp F' H' σ' ρ' fp'
  len : σ'.length = σ.length
  rl : ρ'.length = ρ.length
  sv : ∀ i, i ∉ vs → sg σ' i = sg σ i
  ko : ∀ (i : Nat) m t, i ∉ vs → ρ[i]? = some (Sl.own m t) → ∃ t', ρ'[i]? = some (Sl.own m t')
  un : ∀ (i : Nat), i ∉ vs → i ∉ T → ρ'[i]? = ρ[i]? ∧ fp' i = fp i ∧ ∀ b ∈ fp i, H' b = H b
section
variable {K : Fg} {T vs : List Nat} {F H F1 H1 F2 H2 : Hp} {σ σ1 σ2 : Sg} {ρ ρ1 ρ2 : Rho} {fp fp1 fp2 : FP}
theorem Blk.refl (E : EnvOk K F H σ ρ fp) : Blk K T vs F H σ ρ fp F H σ ρ fp := ⟨.refl E, rfl, rfl, fun _ _ => rfl, fun _ _ t _ h => ⟨t, h⟩, fun _ _ _ => ⟨rfl, rfl, fun _ _ => rfl⟩⟩
theorem Blk.trans (a : Blk K T vs F H σ ρ fp F1 H1 σ1 ρ1 fp1) (b : Blk K T vs F1 H1 σ1 ρ1 fp1 F2 H2 σ2 ρ2 fp2) : Blk K T vs F H σ ρ fp F2 H2 σ2 ρ2 fp2 :=
  ⟨a.st.trans b.st, b.len.trans a.len, b.rl.trans a.rl, fun i hi => (b.sv i hi).trans (a.sv i hi), fun i m t hi h => let ⟨t1, h1⟩ := a.ko i m t hi h; b.ko i m t1 hi h1, fun i hi hT => by
    obtain ⟨a1, a2, a3⟩ := a.un i hi hT
    obtain ⟨b1, b2, b3⟩ := b.un i hi hT
    exact ⟨b1.trans a1, b2.trans a2, fun c hc => (b3 c (by rw [a2]; exact hc)).trans (a3 c hc)⟩⟩
theorem Blk.of_e {T1 : List Nat} (E : EnvOk K F H σ ρ fp) (a : EStep K T1 F H σ ρ fp F1 H1 ρ1 fp1) (hT : ∀ i ∈ T1, i ∈ T) : Blk K T vs F H σ ρ fp F1 H1 σ ρ1 fp1 :=
  ⟨a.st, rfl, by have h1 := a.env.len; have h2 := E.len; omega, fun _ _ => rfl, fun i m t _ h => a.ko i m t h, fun i _ hi => a.un i fun z => hi (hT i z)⟩
theorem Blk.of_g {ws : List Nat} (E : EnvOk K F H σ ρ fp) (s : Step K F H σ ρ fp F H σ1 ρ1 fp1) (o : Off ws σ ρ fp σ1 ρ1 fp1) (hw : ∀ i ∈ ws, i ∈ vs) : Blk K T vs F H σ ρ fp F H σ1 ρ1 fp1 :=
  ⟨s, o.1, by have h1 := s.env.len; have h2 := E.len; have h3 := o.1; omega, fun i hi => (o.2 i fun z => hi (hw i z)).1, fun i m t hi h => ⟨t, by rw [(o.2 i fun z => hi (hw i z)).2.1]; exact h⟩, fun i hi _ => ⟨(o.2 i fun z => hi (hw i z)).2.1, (o.2 i fun z => hi (hw i z)).2.2, fun _ _ => rfl⟩⟩
theorem Blk.of_w {σin : Sg} (E : EnvOk K F H σ ρ fp) (hn : noOwn ρ vs = true) (hl : σin.length = σ.length) (hs : ∀ i, i ∉ vs → sg σin i = sg σ i) : Blk K T vs F H σ ρ fp F H σin (wipeR ρ vs) fp :=
  ⟨wipe_step E hn hl hs, hl, wipeR_len, hs, fun i m t hi h => ⟨t, by rw [wipeR_out hi]; exact h⟩, fun i hi _ => ⟨wipeR_out hi, rfl, fun _ _ => rfl⟩⟩
theorem Blk.hid {D : Addr} {o : HO} (s : Blk K T vs F H σ ρ fp F1 H1 σ1 ρ1 fp1) (hF : F1 D = none) (hO : ¬ Owns fp1 D) (hD : H1 D = some o) (hn : ∀ ps, o ≠ .tbl ps := by exact fun _ z => nomatch z) : Blk K T vs F (hid H D) σ ρ fp F1 (VL.hid H1 D) σ1 ρ1 fp1 :=
  ⟨step_hid s.st hF hO (fun ps z => hn ps (Option.some.inj (hD.symm.trans z))), s.len, s.rl, s.sv, s.ko, fun i hi hT => by
    obtain ⟨a, b, c⟩ := s.un i hi hT
    refine ⟨a, b, fun x hx => ?_⟩
    by_cases e : x = D
    · subst e; rw [hid_at, hid_at]
    · rw [hid_ne e, hid_ne e]; exact c x hx⟩
end
noncomputable def VTs (X : Cx) (T : List Nat) (W : WV) (ifs : List Expr) (f : M Bool) : Prop := PTs X ifs (tVT X.K T W f)
section
variable {X : Cx} {T T1 T2 T3 : List Nat} {W : WV} {pos : Pos}
theorem pts_imp {e : List Expr} {t t' : TT} (h : PTs X e t) (i : ∀ σ H Q, t' σ H Q → t σ H Q) : PTs X e t' := ⟨fun pins s σ H Q I q => h.run pins s σ H Q I (i σ H Q q)⟩
theorem vts_nil : VTs X [] W [] tYesM := pts_imp pts_nil fun σ H Q ⟨F, ρ, fp, o, E, e, P⟩ => by
  cases ok_inj e
  exact P _ H F fp (.refl E) rfl
theorem vts_one {c : Expr} {fc : M Bool} (h : VT X T W c fc) : VTs X T W [c] fc := pts_one h
theorem tv_comp {K : Fg} {σ : Sg} {H : Hp} {Q : VK} {wi : TI} {fi : M (List PyData)} {gt : TG} {ws vs : List Nat} {G : MG} {tt : M Bool} {te : M Rv}
    (hi : ∀ σ H R F ρ fp o, EnvOk K F H σ ρ fp → fi ρ = some o →
      (match o with
       | Er.ok xs ρ' => ∀ J G Y H1 F1 fp1, EStep K T1 F H σ ρ fp F1 H1 ρ' fp1 → Walk J xs.length G Y → (∀ F2 H2, Same F1 F2 → Same F2 H2 → G H2) →
          (∀ i F2 H2 x H3, i < xs.length → Same F1 F2 → Same F2 H2 → Y i H2 x H3 → ∃ F3 d, xs[i]? = some d ∧ Grow F2 H2 F3 H3 ∧ Dq K F3 x d) → R J H1
       | Er.ex c ρ' => ∀ H1 F1 fp1, EStep K T1 F H σ ρ fp F1 H1 ρ' fp1 → W c σ H1) → wi σ H R)
    (hg : GOk K gt ws G) (hw : ∀ i ∈ ws, i ∈ vs) (h : tVN K (T1 ++ (T2 ++ T3)) W (nComp fi vs G tt te) σ H Q) : tLc wi gt (tVT K T2 W0 tt) (tV K T3 W0 te) vs σ H Q := by
  obtain ⟨F, ρ, fp, o, E, e, P⟩ := h
  unfold nComp bnd at e
  cases hf : fi ρ with
  | none => rw [hf] at e; cases e
  | some r =>
    rw [hf] at e
    cases r with
    | ex c ρ1 => cases e; exact hi σ H _ F ρ fp _ E hf fun H1 F1 fp1 s1 => P H1 F1 fp1 (s1.sub fun i hi => List.mem_append_left _ hi)
    | ok xs ρ1 =>
      refine hi σ H _ F ρ fp _ E hf fun J Gw Y H1 F1 fp1 s1 w hG hY D nD => ?_
      simp only at e
      unfold comp1 at e
      split at e
      · rename_i hn1
        split at e
        · rename_i ds ρe hgo
          split at e
          · rename_i hne
            cases ok_inj e
            have hFD : F1 D = none := s1.env.sub.free nD
            have hOD : ¬ Owns fp1 D := fun z => (s1.env.there z).1 nD
            -- the block's start, the list being hidden
            have b0 : Blk K (T2 ++ T3) vs F1 H1 σ ρ1 fp1 F1 (hid (upd H1 D (.lst [])) D) (wipe σ vs) (wipeR ρ1 vs) fp1 := by
              rw [hid_upd, hid_free nD]
              exact .of_w s1.env hn1 (wipe_length σ vs) fun i hi => wipe_out hi
            refine lc_it w (fun i H' => ∃ F' ρ' fp' acc ds', Blk K (T2 ++ T3) vs F1 H1 σ ρ1 fp1 F' (hid H' D) (wipe σ vs) ρ' fp' ∧ H' D = some (.lst acc) ∧ F' D = none ∧ ¬ Owns fp' D ∧ DqAll K F' acc ds' ∧ compGo vs G tt te (xs.drop i) ds' ρ' = some (ds, ρe))
              ⟨F1, wipeR ρ1 vs, fp1, [], [], b0, upd_same, hFD, hOD, .nil, by rw [List.drop_zero]; exact hgo⟩
              (fun i H' _ ⟨F', ρ', fp', acc, ds', b, _⟩ => hG F' H' b.st.fr (env_show b.st.env).sub) (fun i x H' H3 hilt ⟨F', ρ', fp', acc, ds', b, hD, hFD', hOD', hacc, hgo'⟩ y => ?_) fun H' ⟨F', ρ', fp', acc, ds', b, hD, hFD', hOD', hacc, hgo'⟩ => ?_
            · have E' := env_show b.st.env
              obtain ⟨F3, d, hd, g3, dx⟩ := hY i F' H' x H3 hilt b.st.fr E'.sub y
              have hdrop : xs.drop i = d :: xs.drop (i + 1) := by
                obtain ⟨hi', hd'⟩ := List.getElem?_eq_some_iff.mp hd
                rw [List.drop_eq_getElem_cons hi', hd']
              rw [hdrop] at hgo'
              unfold compGo at hgo'
              have s3 : EStep K [] F' H' (wipe σ vs) ρ' fp' F3 H3 ρ' fp' := g3.step E'
              obtain ⟨hD3, hF3, hO3⟩ := step_keeps s3.st hD hFD' hOD'
              have b3 : Blk K (T2 ++ T3) vs F1 H1 σ ρ1 fp1 F3 (hid H3 D) (wipe σ vs) ρ' fp' := b.trans ((Blk.of_e E' s3 (fun i hi => nomatch hi)).hid hF3 hO3 hD3)
              split at hgo'
              · cases hgo'
              · rename_i ρ4 h4
                refine hg x (wipe σ vs) H3 _ F3 ρ' fp' d ρ4 s3.env dx h4 fun σ4 fp4 s4 o4 => ?_
                have hF4 := hF3
                obtain ⟨hD4, _, hO4⟩ := step_keeps s4 hD3 hF3 hO3
                have b4 := b3.trans ((Blk.of_g (T := T2 ++ T3) s3.env s4 o4 hw).hid hF4 hO4 hD4)
                have hσ4 : wipe σ4 vs = wipe σ vs := wipe_same b4.len b4.sv
                refine ⟨hσ4, ?_⟩
                cases htt : tt ρ4 with
                | none => rw [htt] at hgo'; cases hgo'
                | some rt =>
                  rw [htt] at hgo'
                  cases rt with
                  | ex c ρ5 => cases hgo'
                  | ok k ρ5 =>
                    refine ⟨F3, ρ4, fp4, _, s4.env, htt, fun k' H5 F5 fp5 s5 r5 => ?_⟩
                    have r5 : k' = k := r5
                    subst r5
                    obtain ⟨hD5, hF5, hO5⟩ := step_keeps s5.st hD4 hF4 hO4
                    have b5 := b4.trans ((Blk.of_e (vs := vs) (T := T2 ++ T3) s4.env s5 (fun i hi => List.mem_append_left _ hi)).hid hF5 hO5 hD5)
                    cases k' with
                    | false =>
                      dsimp only
                      rw [if_neg Bool.false_ne_true]
                      simp only at hgo'
                      split at hgo'
                      · rename_i hn5
                        have bw := (Blk.of_w (T := T2 ++ T3) (σin := wipe σ vs) s5.env hn5 (by rw [wipe_length]; exact b5.len.symm) fun i hi => by rw [wipe_out hi]; exact (b5.sv i hi).symm).hid hF5 hO5 hD5
                        exact ⟨F5, wipeR ρ5 vs, fp5, acc, ds', b5.trans bw, hD5, hF5, hO5, dqAll_mono (g3.f.trans s5.st.fr) _ _ hacc, hgo'⟩
                      · cases hgo'
                    | true =>
                      dsimp only
                      rw [if_pos rfl]
                      simp only at hgo'
                      cases hte : te ρ5 with
                      | none => rw [hte] at hgo'; cases hgo'
                      | some re =>
                        rw [hte] at hgo'
                        cases re with
                        | ex c ρ6 => cases hgo'
                        | ok rv ρ6 =>
                          cases rv with
                          | o j => cases hgo'
                          | d d6 =>
                            refine ⟨F5, ρ5, fp5, _, s5.env, hte, fun y6 H6 F6 fp6 s6 r6 => ?_⟩
                            obtain ⟨hD6, hF6, hO6⟩ := step_keeps s6.st hD5 hF5 hO5
                            have b6 := b5.trans ((Blk.of_e (vs := vs) (T := T2 ++ T3) s5.env s6 (fun i hi => List.mem_append_right _ hi)).hid hF6 hO6 hD6)
                            simp only at hgo'
                            split at hgo'
                            · rename_i hn6
                              rw [Bool.and_eq_true] at hn6
                              have hacc6 := dqAll_mono (g3.f.trans (s5.st.fr.trans s6.st.fr)) _ _ hacc
                              refine ⟨acc, hD6, ?_, F6, wipeR ρ6 vs, fp6, acc ++ [y6], ds' ++ [d6], ?_, upd_same, hF6, hO6, dqAll_app hacc6 (.cons r6 .nil), hgo'⟩
                              · have := small_iff.mp hn6.1
                                rw [dqAll_len hacc6]
                                omega
                              · rw [hid_upd]
                                have bw := (Blk.of_w (T := T2 ++ T3) (σin := wipe σ vs) s6.env hn6.2 (by rw [wipe_length]; exact b6.len.symm) fun i hi => by rw [wipe_out hi]; exact (b6.sv i hi).symm).hid hF6 hO6 hD6
                                exact b6.trans bw
                            · cases hgo'
            · rw [List.drop_length] at hgo'
              cases (Option.some.inj hgo')
              -- the end: the slots as they were
              have E' := env_show b.st.env
              have hl1 : ρ1.length = ρe.length := b.rl.symm
              have slot : ∀ (i : Nat), i ∈ vs → (restR ρ1 ρe vs)[i]? = ρ1[i]? := fun i hi => restR_in hl1 hi
              have Er : EnvOk K F' H' σ (restR ρ1 ρe vs) fp' := by
                refine ⟨E'.sub, by rw [restR_len, ← hl1]; exact s1.env.len, fun i s hs => ?_, fun i hi => ?_, E'.nd, E'.ap, E'.tb, E'.al' (fun j i p h => ?_) fun i p t h => ?_⟩
                rotate_left 2
                · by_cases hv : j ∈ vs
                  · rw [slot j hv] at h; exact absurd h (noOwn_al hn1 hv i p)
                  · rw [restR_out hv] at h; exact ⟨h, (wipe_out hv).symm⟩
                · by_cases hv : i ∈ vs
                  · rw [slot i hv] at h; exact absurd h (noOwn_get hn1 hv _ t)
                  · rw [restR_out hv] at h; exact ⟨h, (wipe_out hv).symm, fun _ _ => rfl⟩
                rotate_right 2
                · by_cases hv : i ∈ vs
                  · rw [slot i hv] at hs
                    have q := s1.env.sl i s hs
                    cases s with
                    | no => trivial
                    | al _ _ => trivial
                    | val d => obtain ⟨u, e1, e2⟩ := q; exact ⟨u, e1, dq_mono b.st.fr _ _ e2⟩
                    | own m t => exact absurd hs (noOwn_get hn1 hv m t)
                  · rw [restR_out hv] at hs
                    have q := E'.sl i s hs
                    rw [wipe_out hv] at q
                    exact q
                · by_cases hv : i ∈ vs
                  · exact E'.nil i fun m t z => noOwn_get hne hv m t z
                  · refine E'.nil i fun m t z => hi m t ?_
                    rw [restR_out hv]; exact z
              have fin : EStep K (T1 ++ (T2 ++ T3)) F1 H1 σ ρ1 fp1 F' H' (restR ρ1 ρe vs) fp' := by
                refine ⟨⟨Er, b.st.fr, b.st.nf, fun c hc => ?_, fun c o hc hn nt => (hid_some (b.st.frame c o hc hn nt)).2, b.st.own, fun i m t h hm => ?_, fun i t h => ?_⟩, fun i m t h => ?_, fun i hi => ?_⟩
                · refine b.st.dom c ?_
                  by_cases z : c = D
                  · subst z; exact hid_at
                  · rw [hid_ne z]; exact hc
                · have hv : i ∉ vs := fun z => noOwn_get hn1 z _ _ h
                  obtain ⟨_, m', t', h', k'⟩ := b.st.pin i m t h hm
                  exact ⟨rfl, m', t', by rw [restR_out hv]; exact h', k'⟩
                · have hv : i ∉ vs := fun z => noOwn_get hn1 z _ _ h
                  obtain ⟨_, h', hfp, hb⟩ := b.st.lock i t h
                  refine ⟨rfl, by rw [restR_out hv]; exact h', hfp, fun c hc => ?_⟩
                  have z := hb c hc
                  have hne : c ≠ D := fun z => by subst z; exact hOD ⟨i, hc⟩
                  rw [hid_ne hne] at z
                  exact z
                · have hv : i ∉ vs := fun z => noOwn_get hn1 z _ _ h
                  obtain ⟨t', h'⟩ := b.ko i m t hv h
                  exact ⟨t', by rw [restR_out hv]; exact h'⟩
                · by_cases hv : i ∈ vs
                  · have hnil : fp1 i = [] := s1.env.nil i fun m t z => noOwn_get hn1 hv m t z
                    have hnil' : fp' i = [] := E'.nil i fun m t z => noOwn_get hne hv m t z
                    refine ⟨slot i hv, by rw [hnil, hnil'], fun c hc => ?_⟩
                    rw [hnil] at hc
                    cases hc
                  · obtain ⟨a1, a2, a3⟩ := b.un i hv fun z => hi (List.mem_append_right _ z)
                    refine ⟨by rw [restR_out hv]; exact a1, a2, fun c hc => ?_⟩
                    have z := a3 c hc
                    have hne : c ≠ D := fun z => by subst z; exact hOD ⟨i, hc⟩
                    rw [hid_ne hne] at z
                    exact z
              refine P (.ref D) H' F' fp' ((s1.sub fun i hi => List.mem_append_left _ hi).trans fin) ⟨[D], ?_⟩
              refine ⟨.lst hD hFD' (trs_dat hacc), by simp, fun c hc => ?_, fun c hc => ?_⟩
              · rw [List.mem_singleton.mp hc]
                exact .inl (s1.st.dom D nD)
              · rw [List.mem_singleton.mp hc]
                exact hOD'
          · cases e
        · cases e
      · cases e
theorem vn_comp {elt tg iter : Expr} {ifs : List Expr} {scope : Scope} {own : List (Str × Nat)} {fi : M (List PyData)} {gt : TG} {ws : List Nat} {G : MG} {tt : M Bool} {te : M Rv} (hc : X.calm = true) (hN : X.N.Nodup) (hi : VI X T1 W tg iter fi) (ok : BlkOk X.N X.env.scope scope own)
    (hg : ∀ (s : Shared) (H : Hp) (C : Addr) (cl : List (Str × Addr)) (fp : List Addr), VG (X.blk s H scope (compEnvC scope cl C X.env) fp) tg gt ws G) (hw : ∀ i ∈ ws, i ∈ own.map (·.2))
    (ht : ∀ (s : Shared) (H : Hp) (C : Addr) (cl : List (Str × Addr)) (fp : List Addr), VTs (X.blk s H scope (compEnvC scope cl C X.env) fp) T2 W0 ifs tt)
    (he : ∀ (s : Shared) (H : Hp) (C : Addr) (cl : List (Str × Addr)) (fp : List Addr), VE (X.blk s H scope (compEnvC scope cl C X.env) fp) T3 W0 elt te) (hs : ∀ x, foldedSetIterable iter X.env x = pure x := by intro _; rfl) :
    VN X (T1 ++ (T2 ++ T3)) W (.ListComp elt [⟨tg, iter, ifs, 0⟩] scope pos) (nComp fi (own.map (·.2)) G tt te) := by
  obtain ⟨wi, p1, q1⟩ := hi
  exact pe_imp (pe_lc (tt := tVT X.K T2 W0 tt) (te := tV X.K T3 W0 te) hc hN p1 ok (fun s H C cl fp => (hg s H C cl fp).1) ht he hs) fun σ H Q h => tv_comp q1 (hg ⟨X.s_0.heap, X.s_0.gens, X.s_0.drawn, X.s_0.toks, X.s_0.os⟩ X.H_0 0 [] []).2 hw h
theorem vs_setCompV {i : Nat} {y : Str} {py spos : Pos} {elt tg iter : Expr} {ifs : List Expr} {scope : Scope} {own : List (Str × Nat)} {fi : M (List PyData)} {gt : TG} {ws : List Nat} {G : MG} {tt : M Bool} {te : M Rv} (hc : X.calm = true) (hN : X.N.Nodup) (hi : VI X T1 W tg iter fi) (ok : BlkOk X.N X.env.scope scope own)
    (hg : ∀ (s : Shared) (H : Hp) (C : Addr) (cl : List (Str × Addr)) (fp : List Addr), VG (X.blk s H scope (compEnvC scope cl C X.env) fp) tg gt ws G) (hw : ∀ i ∈ ws, i ∈ own.map (·.2))
    (ht : ∀ (s : Shared) (H : Hp) (C : Addr) (cl : List (Str × Addr)) (fp : List Addr), VTs (X.blk s H scope (compEnvC scope cl C X.env) fp) T2 W0 ifs tt)
    (he : ∀ (s : Shared) (H : Hp) (C : Addr) (cl : List (Str × Addr)) (fp : List Addr), VE (X.blk s H scope (compEnvC scope cl C X.env) fp) T3 W0 elt te) (hy : X.N[i]? = some y := by rfl) (hyl : X.env.scope.names.lookup y = some .local := by rfl)
    (hsw : swapsWith (.ListComp elt [⟨tg, iter, ifs, 0⟩] scope pos) (some (.Name y py)) spos.line X.env = pure true := by exact sw_true rfl rfl rfl (by decide +kernel)) (hs : ∀ x, foldedSetIterable iter X.env x = pure x := by intro _; rfl) :
    VS X W (.Assign [.Name y py] (.ListComp elt [⟨tg, iter, ifs, 0⟩] scope pos) spos) (sSet i (cFrz (nComp fi (own.map (·.2)) G tt te))) := by
  obtain ⟨wi, p1, q1⟩ := hi
  refine ps_imp (ps_setLc (tt := tVT X.K T2 W0 tt) (te := tV X.K T3 W0 te) hc hN hy hyl hsw p1 ok (fun s H C cl fp => (hg s H C cl fp).1) ht he hs) fun D σ H ⟨F, ρ, fp, o, E, e, P⟩ => ?_
  refine tv_comp (T1 := T1) q1 (hg ⟨X.s_0.heap, X.s_0.gens, X.s_0.drawn, X.s_0.toks, X.s_0.os⟩ X.H_0 0 [] []).2 hw (tv_frz (tv_st E e P fun r ρ1 v H1 F1 fp1 s1 r1 e1 _ => ?_))
  cases r with
  | o _ => cases e1
  | d d =>
    obtain ⟨ρ2, e2, rfl⟩ := map_some e1
    exact P _ H1 F1 _ (put_val s1.st e2 r1)
end
end VL

end

section
set_option Elab.async false
set_option linter.all false
set_option maxRecDepth 100000
namespace VL
open PySem PySem.Spec PyProof.Rows L2

theorem kids_set {t k k' : Tr} {j : Nat} (h : (kids t)[j]? = some k) : (kids (setKid t j k'))[j]? = some k' := by
  have hj := (List.getElem?_eq_some_iff.mp h).1
  cases t with
  | dat _ => simp [kids] at hj
  | fk _ => simp [kids] at hj
  | ft _ => simp [kids] at hj
  | raw _ => simp [kids] at hj
  | sd _ => simp [kids] at hj
  | hole => simp [kids] at hj
  | tup ts => exact List.getElem?_set_self hj
  | lst ts => exact List.getElem?_set_self hj
  | dk ts => show ((setSnd ts j k').map (·.2))[j]? = _; rw [setSnd_snd]; exact List.getElem?_set_self hj
  | dt ts => show ((setSnd ts j k').map (·.2))[j]? = _; rw [setSnd_snd]; exact List.getElem?_set_self hj
  | ins c ts => show ((setSnd ts j k').map (·.2))[j]? = _; rw [setSnd_snd]; exact List.getElem?_set_self hj
theorem put_at : ∀ {p : List Nat} {t y t0 : Tr}, t.at p = some t0 → (t.put p y).at p = some y
  | [], t, y, t0, h => by simp [Tr.put, Tr.at]
  | j :: p, t, y, t0, h => by
    simp only [Tr.at] at h
    split at h
    · rename_i k hk
      simp only [Tr.put, hk, Tr.at, kids_set hk]
      exact put_at h
    · cases h
theorem put_app : ∀ {p q : List Nat} {t y tp : Tr}, t.at p = some tp → t.put (p ++ q) y = t.put p (tp.put q y)
  | [], q, t, y, tp, h => by
    simp only [Tr.at] at h
    cases h
    simp [Tr.put]
  | j :: p, q, t, y, tp, h => by
    simp only [Tr.at] at h
    split at h
    · rename_i k hk
      simp only [List.cons_append, Tr.put, hk]
      rw [put_app h]
    · cases h
theorem at_appB : ∀ {p q : List Nat} {t tp : Tr}, t.at p = some tp → t.at (p ++ q) = tp.at q
  | [], q, t, tp, h => by
    simp only [Tr.at] at h
    cases h
    rfl
  | j :: p, q, t, tp, h => by
    simp only [Tr.at] at h
    split at h
    · rename_i k hk
      simp only [List.cons_append, Tr.at, hk]
      exact at_appB h
    · cases h
theorem path_app {H : Hp} : ∀ {p q : List Nat} {u v : V}, pathV H u p = some v → pathV H u (p ++ q) = pathV H v q
  | [], q, u, v, h => by
    simp only [pathV] at h
    cases h
    rfl
  | j :: p, q, u, v, h => by
    simp only [pathV] at h
    split at h
    · rename_i k hk
      simp only [List.cons_append, pathV, hk]
      exact path_app h
    · cases h
noncomputable def Md.wr (m : Md) (r : List Nat) : Prop := m ≠ .lock ∧ ∀ p, m = .bor p → ∃ r', r = p ++ r'
theorem mut_step {K : Fg} {T : List Nat} {F0 H0 F H : Hp} {σ : Sg} {ρ0 ρ : Rho} {fp0 fp : FP} {i : Nat} {m : Md} {t t' t'' : Tr} {u : V} {a : Addr} {p : List Nat} {A : List Addr} {o : HO}
    (s1 : EStep K T F0 H0 σ ρ0 fp0 F H ρ fp) (hi : ρ[i]? = some (.own m t)) (hm : m.wr p) (hu : sg σ i = some u) (hp : t.at p = some t') (hv : pathV H u p = some (.ref a)) (hA : ∀ b ∈ A, ¬ Owns fp b) (hnA : A.Nodup) (hw : ∀ b ∈ A, H0 b = none ∨ Owns fp0 b)
    (ht : ∀ B, TrOk K F H (.ref a) t' B → B.Nodup → (∀ b ∈ A, b ∉ B) → a ∈ B ∧ ∃ B', TrOk K F (upd H a o) (.ref a) t'' B' ∧ B'.Nodup ∧ ∀ b ∈ B', b ∈ B ∨ b ∈ A) :
    ∃ fp', EStep K (T ++ [i]) F0 H0 σ ρ0 fp0 F (upd H a o) (ρ.set i (.own m (t.put p t''))) fp' ∧ (∀ b, Owns fp' b → Owns fp b ∨ b ∈ A) := by
  have E := s1.env
  obtain ⟨u', e1, q⟩ := E.sl i _ hi
  rw [hu] at e1; cases e1
  obtain ⟨v', pre, B, post, g1, g2, g3, g4⟩ := focus q hp
  rw [hv] at g1; cases g1
  have hnd := E.nd i
  rw [g2] at hnd
  have hndB : B.Nodup := (List.nodup_append.mp (List.nodup_append.mp hnd).2.1).1
  have inB : ∀ b ∈ B, b ∈ fp i := fun b z => by rw [g2]; exact List.mem_append_right _ (List.mem_append_left _ z)
  obtain ⟨haB, B', q', hndB', hB'⟩ := ht B g3 hndB fun b hb z => hA b hb ⟨i, inB b z⟩
  have hfree : ∀ b ∈ fp i, F b = none := fun b z => (q.mem b z).2
  have disj1 : ∀ b ∈ pre, ∀ c ∈ B ++ post, b ≠ c := (List.nodup_append.mp hnd).2.2
  have disj2 : ∀ b ∈ B, ∀ c ∈ post, b ≠ c := (List.nodup_append.mp (List.nodup_append.mp hnd).2.1).2.2
  have nea : ∀ b, b ∈ pre ∨ b ∈ post → b ≠ a := fun b z e => by
    rcases z with z | z
    · exact disj1 b z a (List.mem_append_left _ haB) e
    · exact disj2 a haB b z e.symm
  have hin : ∀ b, b ∈ pre ∨ b ∈ post → b ∈ fp i := fun b z => by
    rw [g2]
    rcases z with z | z
    · exact List.mem_append_left _ z
    · exact List.mem_append_right _ (List.mem_append_right _ z)
  obtain ⟨qn, _⟩ := g4 F (upd H a o) t'' B' (Same.refl _) (fun b z => ⟨upd_ne (nea b z), hfree b (hin b z)⟩) q'
  have hil : i < ρ.length := (List.getElem?_eq_some_iff.mp hi).1
  have haO : a ∈ fp i := inB a haB
  have mem' : ∀ b, b ∈ pre ++ (B' ++ post) → b ∈ fp i ∨ b ∈ A := fun b z => by
    rcases List.mem_append.mp z with z | z
    · exact .inl (hin b (.inl z))
    · rcases List.mem_append.mp z with z | z
      · exact (hB' b z).imp_left (inB b)
      · exact .inl (hin b (.inr z))
  have hndn : (pre ++ (B' ++ post)).Nodup := by
    have cross : ∀ b ∈ B', ∀ c, c ∈ pre ∨ c ∈ post → b ≠ c := fun b hb c hc e => by
      subst e
      rcases hB' b hb with z | z
      · rcases hc with w | w
        · exact disj1 b w b (List.mem_append_left _ z) rfl
        · exact disj2 b z b w rfl
      · exact hA b z ⟨i, hin b hc⟩
    refine List.nodup_append.mpr ⟨(List.nodup_append.mp hnd).1, List.nodup_append.mpr ⟨hndB', (List.nodup_append.mp (List.nodup_append.mp hnd).2.1).2.1, fun b hb c hc => cross b hb c (.inr hc)⟩, fun b hb c hc => ?_⟩
    rcases List.mem_append.mp hc with z | z
    · exact fun e => cross c z b (.inl hb) e.symm
    · exact disj1 b hb c (List.mem_append_right _ z)
  have ow : ∀ b, Owns (fset fp i (pre ++ (B' ++ post))) b → Owns fp b ∨ b ∈ A := fun b hb => by
    rcases hb.fset with z | z
    · exact (mem' b z).imp_left fun w => ⟨i, w⟩
    · exact .inl z
  have neJ : ∀ j, j ≠ i → ∀ b ∈ fp j, b ≠ a := fun j hj b hb e => by subst e; exact hj (E.ap j i b hb haO)
  have alK : AlOk (upd H a o) σ (ρ.set i (.own m (t.put p t''))) := by
    intro j k pa tt h1 h2
    have hji : i ≠ j := fun z => by
      subst z
      rw [List.getElem?_set_self hil] at h1
      cases h1
    rw [List.getElem?_set_ne hji] at h1
    by_cases hk : i = k
    · subst hk
      rw [List.getElem?_set_self hil] at h2
      cases h2
      obtain ⟨r', rfl⟩ := hm.2 pa rfl
      obtain ⟨tp, u1, v1, c1, c2, c3, c4⟩ := E.al j i pa t h1 hi
      rw [hu] at c2; cases c2
      obtain ⟨v2, pre1, B1, post1, k1, k2, k3, k4⟩ := focus q c1
      rw [c4] at k1; cases k1
      rw [at_appB c1] at hp
      rw [path_app c4] at hv
      obtain ⟨v3, pre2, B2, post2, l1, l2, l3, l4⟩ := focus k3 hp
      rw [hv] at l1; cases l1
      have nd1 := E.nd i
      rw [k2] at nd1
      have ndB1 : B1.Nodup := (List.nodup_append.mp (List.nodup_append.mp nd1).2.1).1
      have ndB2 : B2.Nodup := by rw [l2] at ndB1; exact (List.nodup_append.mp (List.nodup_append.mp ndB1).2.1).1
      have in1 : ∀ b ∈ B1, b ∈ fp i := fun b z => by rw [k2]; exact List.mem_append_right _ (List.mem_append_left _ z)
      have in2 : ∀ b ∈ B2, b ∈ B1 := fun b z => by rw [l2]; exact List.mem_append_right _ (List.mem_append_left _ z)
      obtain ⟨haB2, B3, q3, _, _⟩ := ht B2 l3 ndB2 fun b hb z => hA b hb ⟨i, in1 b (in2 b z)⟩
      have o1 : ∀ b, b ∈ pre1 ∨ b ∈ post1 → b ≠ a := fun b z e => by
        subst e
        rcases z with z | z
        · exact (List.nodup_append.mp nd1).2.2 b z b (List.mem_append_left _ (in2 b haB2)) rfl
        · exact (List.nodup_append.mp (List.nodup_append.mp nd1).2.1).2.2 b (in2 b haB2) b z rfl
      rw [l2] at ndB1
      have o2 : ∀ b, b ∈ pre2 ∨ b ∈ post2 → b ≠ a := fun b z e => by
        subst e
        rcases z with z | z
        · exact (List.nodup_append.mp ndB1).2.2 b z b (List.mem_append_left _ haB2) rfl
        · exact (List.nodup_append.mp (List.nodup_append.mp ndB1).2.1).2.2 b haB2 b z rfl
      have m1 : ∀ b, b ∈ pre1 ∨ b ∈ post1 → b ∈ fp i := fun b z => by
        rw [k2]
        rcases z with z | z
        · exact List.mem_append_left _ z
        · exact List.mem_append_right _ (List.mem_append_right _ z)
      have m2 : ∀ b, b ∈ pre2 ∨ b ∈ post2 → b ∈ fp i := fun b z => in1 b (by
        rw [l2]
        rcases z with z | z
        · exact List.mem_append_left _ z
        · exact List.mem_append_right _ (List.mem_append_right _ z))
      obtain ⟨n1, _⟩ := l4 F (upd H a o) t'' B3 (Same.refl _) (fun b z => ⟨upd_ne (o2 b z), hfree b (m2 b z)⟩) q3
      obtain ⟨_, n2⟩ := k4 F (upd H a o) _ _ (Same.refl _) (fun b z => ⟨upd_ne (o1 b z), hfree b (m1 b z)⟩) n1
      exact ⟨_, u, v1, by rw [put_app c1]; exact put_at c1, hu, c3, n2⟩
    · rw [List.getElem?_set_ne hk] at h2
      obtain ⟨tp, u1, v1, c1, c2, c3, c4⟩ := E.al j k pa tt h1 h2
      obtain ⟨u', e, qk⟩ := E.sl k _ h2
      rw [c2] at e; cases e
      exact ⟨tp, u1, v1, c1, c2, c3, path_stays qk c1 c4 fun b hb => upd_ne (neJ k (Ne.symm hk) b hb)⟩
  refine ⟨fset fp i (pre ++ (B' ++ post)), ⟨⟨⟨?_, by rw [List.length_set]; exact E.len, fun j s hs => ?_, fun j hj => ?_, fun j => ?_, fun j l b h1 h2 => ?_, E.tb.upd (E.ntb ⟨i, haO⟩), alK⟩, s1.st.fr, s1.st.nf, fun b hb => ?_, fun b ob hb hn nt => ?_, fun b hb => ?_, fun j mj tj hj hmj => ?_, fun j tj hj => ?_⟩, fun j mj tj hj => ?_, fun j hj => ?_⟩, ow⟩
  · intro b ob e
    rw [upd_ne fun z => by subst z; rw [hfree b haO] at e; cases e]
    exact E.sub b ob e
  · by_cases hji : i = j
    · subst hji
      rw [List.getElem?_set_self hil] at hs
      cases hs
      unfold fset
      rw [if_pos rfl]
      exact ⟨u, hu, qn⟩
    · rw [List.getElem?_set_ne hji] at hs
      unfold fset
      rw [if_neg (Ne.symm hji)]
      have qj := E.sl j s hs
      cases s with
      | no => trivial
      | al _ _ => trivial
      | val d => exact qj
      | own mj tj =>
        obtain ⟨w, e1, e2⟩ := qj
        exact ⟨w, e1, e2.move (Same.refl _) fun b hb => ⟨upd_ne (neJ j (Ne.symm hji) b hb), (e2.mem b hb).2⟩⟩
  · unfold fset
    by_cases hji : j = i
    · subst hji
      exact absurd (List.getElem?_set_self hil) (hj m _)
    · rw [if_neg hji]
      refine E.nil j fun mj tj z => hj mj tj ?_
      rw [List.getElem?_set_ne (Ne.symm hji)]
      exact z
  · unfold fset
    split
    · exact hndn
    · exact E.nd j
  · unfold fset at h1 h2
    split at h1
    · split at h2
      · omega
      · rename_i h3 h4
        rcases mem' b h1 with z | z
        · exact absurd (E.ap i l b z h2).symm h4
        · exact absurd ⟨l, h2⟩ (hA b z)
    · split at h2
      · rename_i h3 h4
        rcases mem' b h2 with z | z
        · exact absurd (E.ap j i b h1 z) h3
        · exact absurd ⟨j, h1⟩ (hA b z)
      · exact E.ap j l b h1 h2
  · by_cases e : b = a
    · subst e; rw [upd_same] at hb; cases hb
    · rw [upd_ne e] at hb; exact s1.st.dom b hb
  · have e : b ≠ a := fun z => by
      subst z
      rcases s1.st.own b ⟨i, haO⟩ with w | w
      · exact hn w
      · rw [hb] at w; cases w
    rw [upd_ne e]
    exact s1.st.frame b ob hb hn nt
  · rcases ow b hb with z | z
    · exact s1.st.own b z
    · exact (hw b z).symm
  · obtain ⟨_, m1, t1, h1, k1⟩ := s1.st.pin j mj tj hj hmj
    by_cases hji : i = j
    · subst hji
      rw [hi] at h1; cases h1
      exact ⟨rfl, _, _, List.getElem?_set_self hil, k1⟩
    · exact ⟨rfl, m1, t1, by rw [List.getElem?_set_ne hji]; exact h1, k1⟩
  · obtain ⟨_, h1, h2, h3⟩ := s1.st.lock j tj hj
    have hji : i ≠ j := fun z => by subst z; rw [hi] at h1; cases h1; exact hm.1 rfl
    refine ⟨rfl, by rw [List.getElem?_set_ne hji]; exact h1, ?_, fun b hb => ?_⟩
    · unfold fset; rw [if_neg (Ne.symm hji)]; exact h2
    · rw [upd_ne (neJ j (Ne.symm hji) b (by rw [h2]; exact hb))]; exact h3 b hb
  · obtain ⟨t1, h1⟩ := s1.ko j mj tj hj
    by_cases hji : i = j
    · subst hji
      rw [hi] at h1; cases h1
      exact ⟨_, List.getElem?_set_self hil⟩
    · exact ⟨t1, by rw [List.getElem?_set_ne hji]; exact h1⟩
  · have hji : i ≠ j := fun z => hj (List.mem_append_right _ (by simp [z]))
    obtain ⟨h1, h2, h3⟩ := s1.un j fun z => hj (List.mem_append_left _ z)
    refine ⟨by rw [List.getElem?_set_ne hji]; exact h1, ?_, fun b hb => ?_⟩
    · unfold fset; rw [if_neg (Ne.symm hji)]; exact h2
    · rw [upd_ne (neJ j (Ne.symm hji) b (by rw [h2]; exact hb))]; exact h3 b hb

noncomputable def rlP (K : Fg) : Rl K (Nat × List Nat) V := ⟨fun _ _ _ H' _ σ ρ' v r => ∃ u m t t', sg σ r.1 = some u ∧ ρ'[r.1]? = some (Sl.own m t) ∧ t.at r.2 = some t' ∧ pathV H' u r.2 = some v, fun _ h => h⟩
noncomputable def VP (X : Cx) (T : List Nat) (W : WV) (e : Expr) (f : M (Nat × List Nat)) : Prop := PE X e (fun σ H Q => TVg T W (rlP X.K) f σ H Q)
noncomputable def pVar (i : Nat) : M (Nat × List Nat) := fun ρ => match ρ[i]? with
  | some (.own _ _) => some (.ok (i, []) ρ)
  | _ => none
noncomputable def treeAt (ρ : Rho) (r : Nat × List Nat) : Option Tr := match ρ[r.1]? with
  | some (.own _ t) => t.at r.2
  | _ => none
section
variable {X : Cx} {T T1 T2 : List Nat} {W : WV} {fa fb : M Rv} {fp1 : M (Nat × List Nat)} {a b e : Expr} {pos : Pos}
theorem vp_var (i : Nat) {x : Str} {pos : Pos} (hN : X.N[i]? = some x := by rfl) (hv : Vis X.env.scope x := by first | exact Or.inl rfl | exact Or.inr (Or.inl rfl) | exact Or.inr (Or.inr rfl)) (hd : (x == ("__debug__" : Str)) = false := by decide)
    (hcd : (x == ("__classdict__" : Str)) = false := by decide) : VP X [] W (.Name x pos) (pVar i) := by
  refine pe_imp (pe_var hN hv hd hcd) fun σ H Q ⟨F, ρ, fp, o, E, e, P⟩ => ?_
  unfold pVar at e
  split at e
  · rename_i m t h
    cases ok_inj e
    obtain ⟨u, hu, q⟩ := E.sl i _ h
    exact ⟨u, sg_some.mp hu, P u H F fp (.refl E) ⟨u, m, t, t, hu, h, rfl, rfl⟩⟩
  · cases e
theorem place_step {K : Fg} {F H F1 H1 : Hp} {σ : Sg} {ρ ρ1 : Rho} {fp fp1 : FP} {v : V} {r : Nat × List Nat} (E : EnvOk K F H σ ρ fp) (s : EStep K T F H σ ρ fp F1 H1 ρ1 fp1) (hT : r.1 ∉ T)
    (h : ∃ u m t t', sg σ r.1 = some u ∧ ρ[r.1]? = some (Sl.own m t) ∧ t.at r.2 = some t' ∧ pathV H u r.2 = some v) : ∃ u m t t', sg σ r.1 = some u ∧ ρ1[r.1]? = some (Sl.own m t) ∧ t.at r.2 = some t' ∧ pathV H1 u r.2 = some v := by
  obtain ⟨u, m, t, t', h1, h2, h3, h4⟩ := h
  obtain ⟨a1, a2, a3⟩ := s.un r.1 hT
  obtain ⟨u', e1, q⟩ := E.sl r.1 _ h2
  rw [h1] at e1; cases e1
  exact ⟨u, m, t, t', h1, by rw [a1]; exact h2, h3, path_stays q h3 h4 a3⟩
theorem place_get {K : Fg} {F H : Hp} {σ : Sg} {ρ : Rho} {fp : FP} {v : V} {r : Nat × List Nat} {t0 : Tr} (E : EnvOk K F H σ ρ fp) (h : ∃ u m t t', sg σ r.1 = some u ∧ ρ[r.1]? = some (Sl.own m t) ∧ t.at r.2 = some t' ∧ pathV H u r.2 = some v) (ht : treeAt ρ r = some t0) :
    ∃ B, TrOk K F H v t0 B ∧ ∀ b ∈ B, b ∈ fp r.1 := by
  obtain ⟨u, m, t, t', h1, h2, h3, h4⟩ := h
  unfold treeAt at ht
  rw [h2] at ht
  simp only [h3] at ht
  cases ht
  obtain ⟨u', e1, q⟩ := E.sl r.1 _ h2
  rw [h1] at e1; cases e1
  obtain ⟨v', pre, B, post, g1, g2, g3, g4⟩ := focus q h3
  rw [h4] at g1; cases g1
  exact ⟨B, g3, fun b z => by rw [g2]; exact List.mem_append_right _ (List.mem_append_left _ z)⟩
noncomputable def cLeaf (f : M (Nat × List Nat)) : M Rv := bnd f fun r => fun ρ => match treeAt ρ r with
  | some (.dat d) => some (.ok (.d d) ρ)
  | _ => none
noncomputable def pIx (T2 : List Nat) (f : M (Nat × List Nat)) (g : M Rv) : M (Nat × List Nat) := bnd f fun r => bnd g fun y => fun ρ => if T2.contains r.1 then none else match treeAt ρ r, y with
  | some (.lst ts), .d (.int n) => (match ixN ts.length n with
    | some j => some (.ok (r.1, r.2 ++ [j]) ρ)
    | none => none)
  | some (.tup ts), .d (.int n) => (match ixN ts.length n with
    | some j => some (.ok (r.1, r.2 ++ [j]) ρ)
    | none => none)
  | _, _ => none
theorem ixN_lt {m : Nat} {n : Int} {j : Nat} (h : ixN m n = some j) : j < m := by
  unfold ixN at h
  split at h
  · split at h
    · cases h; omega
    · cases h
  · split at h
    · cases h; omega
    · cases h
noncomputable def modeOk (ρ : Rho) (i : Nat) : Bool := match ρ[i]? with
  | some (.own .lock _) => false
  | some (.own (.bor _) _) => false
  | some (.own _ _) => true
  | _ => false
noncomputable def putAt (ρ : Rho) (r : Nat × List Nat) (t' : Tr) : Rho := match ρ[r.1]? with
  | some (.own m t) => ρ.set r.1 (.own m (t.put r.2 t'))
  | _ => ρ
noncomputable def app1 (T2 : List Nat) (r : Nat × List Nat) (tn : Tr) : MS := fun ρ => if T2.contains r.1 || !modeOk ρ r.1 then none else match treeAt ρ r with
  | some (.lst ts) => if small (ts.length + 1) then some (.nx (putAt ρ r (.lst (ts ++ [tn])))) else none
  | _ => none
noncomputable def isLst : Option Tr → Bool
  | some (.lst _) => true
  | _ => false
noncomputable def sApp (T2 : List Nat) (f : M (Nat × List Nat)) (g : M Tr) : MS := sE f fun r => fun ρ => if isLst (treeAt ρ r) then sE g (app1 T2 r) ρ else none
end
theorem mode_of {ρ : Rho} {i : Nat} {m : Md} {t : Tr} {r : List Nat} (h : modeOk ρ i = true) (e : ρ[i]? = some (.own m t)) : m.wr r := by
  unfold modeOk at h
  rw [e] at h
  cases m with
  | lock => cases h
  | bor _ => cases h
  | free => exact ⟨(fun z => nomatch z), (fun p z => nomatch z)⟩
  | pin => exact ⟨(fun z => nomatch z), (fun p z => nomatch z)⟩
theorem touch_of {T2 : List Nat} {i : Nat} {ρ : Rho} (h : ¬ (T2.contains i || !modeOk ρ i) = true) : i ∉ T2 ∧ modeOk ρ i = true := by
  cases h1 : T2.contains i with
  | true => rw [h1] at h; exact absurd rfl h
  | false =>
    cases h2 : modeOk ρ i with
    | false => rw [h1, h2] at h; exact absurd rfl h
    | true => exact ⟨fun z => (by rw [List.contains_iff_mem.mpr z] at h1; cases h1), rfl⟩
section
variable {X : Cx} {T T1 T2 : List Nat} {W : WV} {fp1 : M (Nat × List Nat)} {fn : M Tr} {o e : Expr} {pos apos cpos : Pos}
theorem tyL {K : Fg} {H : Hp} {a : Addr} {vs : List V} (h : H a = some (.lst vs)) : tyV K "list" (.ref a) H := Or.inl ⟨rfl, _, Or.inl (Or.inl h)⟩
theorem trs_apps {K : Fg} {F H : Hp} {ws : List V} {us : List Tr} {A : List Addr} (q : TrsOk K F H ws us A) : ∀ {vs : List V} {ts : List Tr} {B : List Addr}, TrsOk K F H vs ts B → TrsOk K F H (vs ++ ws) (ts ++ us) (B ++ A)
  | _, _, _, .nil => by simpa using q
  | _, _, _, .cons h r => by
    have := TrsOk.cons h (trs_apps q r)
    simpa [List.append_assoc] using this
theorem mut_lst {K : Fg} {F0 H0 F H : Hp} {σ : Sg} {ρ0 ρ : Rho} {fp0 fp : FP} {r : Nat × List Nat} {v : V} {ts us : List Tr} {A : List Addr} {ws : List V} (s1 : EStep K T F0 H0 σ ρ0 fp0 F H ρ fp) (hm : modeOk ρ r.1 = true)
    (pl : ∃ u m t t', sg σ r.1 = some u ∧ ρ[r.1]? = some (Sl.own m t) ∧ t.at r.2 = some t' ∧ pathV H u r.2 = some v) (ht : treeAt ρ r = some (.lst ts)) (hA : ∀ b ∈ A, ¬ Owns fp b) (hnA : A.Nodup) (hw : ∀ b ∈ A, H0 b = none ∨ Owns fp0 b) (q : TrsOk K F H ws us A) :
    ∃ a vs, v = .ref a ∧ H a = some (.lst vs) ∧ vs.length = ts.length ∧ ∃ fp', EStep K (T ++ [r.1]) F0 H0 σ ρ0 fp0 F (upd H a (.lst (vs ++ ws))) (putAt ρ r (.lst (ts ++ us))) fp' := by
  obtain ⟨B, qB, hB⟩ := place_get s1.env pl ht
  obtain ⟨u, m, t, t', h1, h2, h3, h4⟩ := pl
  have ht' : t.at r.2 = some (.lst ts) := by
    unfold treeAt at ht
    rw [h2] at ht
    exact ht
  cases qB with
  | @lst a vs _ B0 e1 e2 e3 =>
    refine ⟨a, vs, rfl, e1, e3.len, ?_⟩
    obtain ⟨fp', st, _⟩ := mut_step (o := .lst (vs ++ ws)) (t'' := .lst (ts ++ us)) s1 h2 (mode_of hm h2) h1 ht' h4 hA hnA hw fun B1 q1 nB1 dj => by
      cases q1 with
      | @lst a _ _ B2 f1 f2 f3 =>
        rw [e1] at f1; cases f1
        have nd := List.nodup_cons.mp nB1
        have aA : ∀ b ∈ A, b ≠ a := fun b hb z => by subst z; exact dj b hb List.mem_cons_self
        refine ⟨List.mem_cons_self, a :: (B2 ++ A), .lst upd_same f2 (trs_apps (q.move (Same.refl _) fun b hb => ⟨upd_ne (aA b hb), (q.mem b hb).2⟩) (f3.move (Same.refl _) fun b hb => ⟨upd_ne fun z => by subst z; exact nd.1 hb, (f3.mem b hb).2⟩)), ?_, fun b hb => ?_⟩
        · refine List.nodup_cons.mpr ⟨fun z => ?_, List.nodup_append.mpr ⟨nd.2, hnA, fun b hb c hc e => ?_⟩⟩
          · rcases List.mem_append.mp z with z | z
            · exact nd.1 z
            · exact aA a z rfl
          · subst e
            exact dj b hc (List.mem_cons_of_mem _ hb)
        · rcases List.mem_cons.mp hb with z | z
          · exact .inl (by rw [z]; exact List.mem_cons_self)
          · exact (List.mem_append.mp z).imp_left (List.mem_cons_of_mem _)
    refine ⟨fp', ?_⟩
    have e : putAt ρ r (.lst (ts ++ us)) = ρ.set r.1 (.own m (t.put r.2 (.lst (ts ++ us)))) := by
      unfold putAt
      rw [h2]
    rw [e]
    exact st
theorem isLst_some {o : Option Tr} (h : isLst o = true) : ∃ ts, o = some (.lst ts) := by
  unfold isLst at h
  split at h
  · exact ⟨_, rfl⟩
  · cases h
theorem place_list {K : Fg} {F H : Hp} {σ : Sg} {ρ : Rho} {fp : FP} {v : V} {r : Nat × List Nat} (E : EnvOk K F H σ ρ fp) (h : ∃ u m t t', sg σ r.1 = some u ∧ ρ[r.1]? = some (Sl.own m t) ∧ t.at r.2 = some t' ∧ pathV H u r.2 = some v) (ht : isLst (treeAt ρ r) = true) : tyV K "list" v H := by
  obtain ⟨ts, e⟩ := isLst_some ht
  obtain ⟨B, q, _⟩ := place_get E h e
  cases q with
  | lst h1 _ _ => exact tyL h1
theorem vs_app (h : PE X (.Call (.Attribute o "append" apos) [e] [] cpos) (tBM X.K "list" rAppend (fun σ H Q => TVg T1 W (rlP X.K) fp1 σ H Q) (tCons (tVN X.K T2 W fn) tNil)))
    (hs : swapsWith (.Call (.Attribute o "append" apos) [e] [] cpos) none pos.line X.env = pure false := by rfl) :
    VS X W (.Expr (.Call (.Attribute o "append" apos) [e] [] cpos) pos) (sApp T2 fp1 fn) :=
  ps_imp (ps_expr h hs) fun D σ H ⟨F, ρ, fp, ou, E, q, P⟩ => by
    refine tv_st E q P fun r ρ1 v H1 F1 fp1 s1 r1 e1 P1 => ?_
    split at e1
    · rename_i hl
      refine ⟨place_list s1.env r1 hl, ?_⟩
      refine tv_st (T := T2) s1.env e1 P1 fun tn ρ2 w H2 F2 fp2 s2 ⟨A, n⟩ e2 _ => ?_
      unfold app1 at e2
      split at e2
      · cases e2
      · rename_i hc
        obtain ⟨hT, hc'⟩ := touch_of hc
        have pl := place_step s1.env s2 hT r1
        split at e2
        · rename_i ts hts
          split at e2
          · rename_i hz
            cases (Option.some.inj e2)
            obtain ⟨a, vs, rfl, ha, hlen, fp', st⟩ := mut_lst s2 hc' pl hts n.out n.nd n.new (ws := [w]) (us := [tn]) (by have := TrsOk.cons n.ok TrsOk.nil; simpa using this)
            refine ⟨a, vs, w, rfl, rfl, ha, ?_, P1 σ _ F2 fp' st.st⟩
            have := small_iff.mp hz
            omega
          · cases e2
        · cases e2
    · cases e1
variable {fa : M Rv}
end
end VL

end

section
set_option Elab.async false
set_option linter.all false
set_option maxRecDepth 100000
namespace VL
open PySem PySem.Spec PyProof.Rows L2

section
variable {X : Cx} {T T1 T2 T3 : List Nat} {W : WV} {fp1 : M (Nat × List Nat)} {fa fb : M Rv} {o i e : Expr} {pos tpos : Pos}
noncomputable def setIx1 (T2 : List Nat) (d : PyData) (r : Nat × List Nat) (y : Rv) : MS := fun ρ => if T2.contains r.1 || !modeOk ρ r.1 then none else match treeAt ρ r, y with
  | some (.lst ts), .d (.int n) => (match ixN ts.length n with
    | some j => some (.nx (putAt ρ r (.lst (ts.set j (.dat d)))))
    | none => none)
  | _, _ => none
noncomputable def sSetIx (T2 : List Nat) (fe : M Rv) (f : M (Nat × List Nat)) (fi : M Rv) : MS := sE fe fun x => match x with
  | .d d => sE f fun r => sE fi (setIx1 T2 d r)
  | .o _ => fun _ => none
theorem vs_setIx (he : VE X T1 W e fa) (ho : VP X T2 W o fp1) (hi : VE X T3 W i fb)
    (ha : ∀ v, assign (.Subscript o i tpos) X.env v = (do
      let ov ← holding [v] (eval o X.env)
      let iv ← holding [v, ov] (eval i X.env)
      standAt tpos
      holding [v, ov, iv] (setItem ov iv v)
      release [v, ov, iv] []) := by intro _; rfl)
    (hs : swapsWithSole [.Subscript o i tpos] e pos.line X.env = pure false := by rfl) (hw : swappedStores [.Subscript o i tpos] e X.env = pure none := by rfl)
    (h1 : (assignEach [.Subscript o i tpos] X.env).map (·.2) = [assign (.Subscript o i tpos) X.env] := by rfl) : VS X W (.Assign [.Subscript o i tpos] e pos) (sSetIx T3 fa fp1 fb) :=
  ps_imp (ps_asg he (pg_sub ho hi set_list ha) hs hw h1) fun D σ H ⟨F, ρ, fp, ou, E, q, P⟩ => by
    refine tv_st E q P fun x ρ1 v H1 F1 fp1 s1 r1 e1 P1 => ?_
    cases x with
    | o _ => cases e1
    | d d =>
      refine tv_st (T := T2) s1.env e1 P1 fun r ρ2 w H2 F2 fp2 s2 r2 e2 P2 => ?_
      refine tv_st (T := T3) s2.env e2 P2 fun y ρ3 z H3 F3 fp3 s3 r3 e3 _ => ?_
      unfold setIx1 at e3
      split at e3
      · cases e3
      · rename_i hc
        obtain ⟨hT, hc'⟩ := touch_of hc
        have pl := place_step s2.env s3 hT r2
        split at e3
        · rename_i ts n hts
          split at e3
          · rename_i j hj
            cases (Option.some.inj e3)
            cases r3
            have hd3 : Dq X.K F3 v d := dq_mono (s2.st.fr.trans s3.st.fr) _ _ r1
            obtain ⟨B, qB, hB⟩ := place_get s3.env pl hts
            obtain ⟨u, m, t, t', h1, h2, h3, h4⟩ := pl
            have ht' : t.at r.2 = some (.lst ts) := by
              unfold treeAt at hts
              rw [h2] at hts
              exact hts
            have hjl := ixN_lt hj
            cases qB with
            | @lst a vs _ B0 f1 f2 f3 =>
              have hlen := f3.len
              obtain ⟨fp', st, _⟩ := mut_step (A := []) (o := .lst (vs.set j v)) (t'' := .lst (ts.set j (.dat d))) s3 h2 (mode_of hc' h2) h1 ht' h4 (fun b hb => nomatch hb) List.nodup_nil (fun b hb => nomatch hb) fun B1 q1 nB1 _ => by
                cases q1 with
                | @lst a _ _ B2 g1 g2 g3 =>
                  rw [f1] at g1; cases g1
                  have nd := List.nodup_cons.mp nB1
                  obtain ⟨w1, pre, Bj, post, k1, k2, k3, k4⟩ := trs_repl (j := j) g3 (List.getElem?_eq_getElem hjl)
                  refine ⟨List.mem_cons_self, a :: (pre ++ post), ?_, ?_, fun b hb => ?_⟩
                  · refine .lst upd_same g2 ?_
                    have sub : ∀ b, b ∈ pre ∨ b ∈ post → b ∈ B2 := fun b hb => by
                      rw [k2]
                      rcases hb with z | z
                      · exact List.mem_append_left _ z
                      · exact List.mem_append_right _ (List.mem_append_right _ z)
                    have z := k4 F3 (upd H3 a (.lst (vs.set j v))) v (.dat d) [] (Same.refl _) (fun b hb => ⟨upd_ne fun z => by subst z; exact nd.1 (sub b hb), (g3.mem b (sub b hb)).2⟩) (.dat hd3)
                    exact z
                  · have nB2 := nd.2
                    rw [k2] at nB2
                    refine List.nodup_cons.mpr ⟨fun z => nd.1 ?_, ?_⟩
                    · rw [k2]
                      rcases List.mem_append.mp z with z | z
                      · exact List.mem_append_left _ z
                      · exact List.mem_append_right _ (List.mem_append_right _ z)
                    · exact List.nodup_append.mpr ⟨(List.nodup_append.mp nB2).1, (List.nodup_append.mp (List.nodup_append.mp nB2).2.1).2.1, fun b hb c hc => (List.nodup_append.mp nB2).2.2 b hb c (List.mem_append_right _ hc)⟩
                  · rcases List.mem_cons.mp hb with z | z
                    · exact .inl (by rw [z]; exact List.mem_cons_self)
                    · refine .inl (List.mem_cons_of_mem _ ?_)
                      rw [k2]
                      rcases List.mem_append.mp z with z | z
                      · exact List.mem_append_left _ z
                      · exact List.mem_append_right _ (List.mem_append_right _ z)
              have e : putAt ρ3 r (.lst (ts.set j (.dat d))) = ρ3.set r.1 (.own m (t.put r.2 (.lst (ts.set j (.dat d))))) := by
                unfold putAt
                rw [h2]
              refine ⟨a, vs, n, j, rfl, rfl, f1, by rw [hlen]; exact hj, P2 σ _ F3 fp' ?_⟩
              rw [e]
              exact st.st
          · cases e3
        · cases e3
end

section
variable {X : Cx} {T : List Nat} {W : WV} {fa : M Rv} {e : Expr} {pos : Pos}
noncomputable def tabD (tb : List (Str × PyData)) (x : Rv) : M Rv := fun ρ => match x with
  | .d (.str z) => (match tb.lookup z with
    | some d => some (.ok (.d d) ρ)
    | none => none)
  | _ => none
noncomputable def cTab (tb : List (Str × PyData)) (f : M Rv) : M Rv := bnd f (tabD tb)
end
section
variable {X : Cx} {T1 T2 T3 : List Nat} {W : WV} {fp1 : M (Nat × List Nat)} {fa : M Rv} {fn : M Tr} {o e : Expr} {apos cpos pos : Pos}
theorem vs_appd (ho : VP X T1 W o fp1) (hn : VN X T2 W e fn) (hT : T2 = T3 := by rfl) (hbase : attributeBase o "append" X.env (eval o X.env) = eval o X.env := by rfl)
    (hfew : ((backTo cpos (starEach [e] X.env)).all (fun x => !x.1) && (backToKw cpos (keywordEach [] X.env)).all (fun x => x.1.isSome)
      && decide (([e] : List Expr).length + ([] : List Keyword).length + (if ([] : List Keyword).isEmpty then 0 else 1) < 30)) = true := by rfl)
    (hline : (apos.endLine == cpos.line) = true := by rfl) (hst : starEach [e] X.env = (false, eval e X.env) :: starEach [] X.env := by rfl) (hplain : (backTo cpos (starEach [] X.env)).any (·.1) = false := by rfl)
    (hs : swapsWith (.Call (.Attribute o "append" apos) [e] [] cpos) none pos.line X.env = pure false := by rfl) :
    VS X W (.Expr (.Call (.Attribute o "append" apos) [e] [] cpos) pos) (sApp T3 fp1 fn) :=
  hT ▸ vs_app (pe_bm PySem.F.plainAttrs_list PySem.F.slot_list_append PySem.F.type_list_append mt_append ho (pa_cons hn pa_nil hst) hbase hfew hline hst hplain) hs
end
theorem al_set {K : Fg} {F H : Hp} {σ : Sg} {ρ : Rho} {fp : FP} {i : Nat} {s : Sl} (E : EnvOk K F H σ ρ fp) (hi : i < ρ.length) (hp : plainSl s = true) : AlOk H σ (ρ.set i s) := E.al' (fun j k p h => by
    by_cases hji : i = j
    · subst hji
      rw [List.getElem?_set_self hi] at h
      cases h
      cases hp
    · rw [List.getElem?_set_ne hji] at h
      exact ⟨h, rfl⟩) fun k p t h => by
    by_cases hji : i = k
    · subst hji
      rw [List.getElem?_set_self hi] at h
      cases h
      cases hp
    · rw [List.getElem?_set_ne hji] at h
      exact ⟨h, rfl, fun _ _ => rfl⟩
section
variable {X : Cx} {W : WV} {pos pos' : Pos}
noncomputable def sRetV (i : Nat) : MS := fun ρ => match ρ[i]? with
  | some (.val d) => some (.rt (.dat d) ρ)
  | some (.own .free t) => some (.rt t (ρ.set i .no))
  | _ => none
theorem vs_retV (i : Nat) {x : Str} (hN : X.N[i]? = some x := by rfl) (hv : Vis X.env.scope x := by first | exact Or.inl rfl | exact Or.inr (Or.inl rfl) | exact Or.inr (Or.inr rfl)) (hd : (x == ("__debug__" : Str)) = false := by decide)
    (hcd : (x == ("__classdict__" : Str)) = false := by decide) : VS X W (.Return (some (.Name x pos')) pos) (sRetV i) :=
  ps_imp (ps_ret (pe_var hN hv hd hcd)) fun D σ H ⟨F, ρ, fp, o, E, e, P⟩ => by
    unfold sRetV at e
    split at e
    · rename_i d h
      cases (Option.some.inj e)
      obtain ⟨u, hu, q⟩ := E.sl i _ h
      exact ⟨u, sg_some.mp hu, P u [] σ H F fp (.refl E) ⟨.dat q, List.nodup_nil, (fun b hb => nomatch hb), (fun b hb => nomatch hb)⟩⟩
    · rename_i t h
      cases (Option.some.inj e)
      obtain ⟨u, hu, q⟩ := E.sl i _ h
      have hi : i < ρ.length := (List.getElem?_eq_some_iff.mp h).1
      have alN : AlOk H σ (ρ.set i .no) := al_set E hi rfl
      refine ⟨u, sg_some.mp hu, P u (fp i) σ H F (fset fp i []) ⟨⟨E.sub, by rw [List.length_set]; exact E.len, fun j s hs => ?_, fun j hj => ?_, fun j => ?_, fun j l b h1 h2 => ?_, E.tb, alN⟩, Same.refl _, fun _ h h' => absurd h h', fun _ h => h, fun _ _ h _ _ => h, fun b hb => ?_, fun j mj tj hj hmj => ?_, fun j tj hj => ?_⟩ ⟨q, E.nd i, fun b hb => .inr ⟨i, hb⟩, fun b hb z => ?_⟩⟩
      · unfold fset
        by_cases hji : i = j
        · subst hji
          rw [List.getElem?_set_self hi] at hs
          cases hs
          trivial
        · rw [List.getElem?_set_ne hji] at hs
          rw [if_neg (Ne.symm hji)]
          exact E.sl j s hs
      · unfold fset
        by_cases hji : j = i
        · rw [if_pos hji]
        · rw [if_neg hji]
          refine E.nil j fun m t z => hj m t ?_
          rw [List.getElem?_set_ne (Ne.symm hji)]
          exact z
      · unfold fset
        split
        · exact List.nodup_nil
        · exact E.nd j
      · unfold fset at h1 h2
        split at h1
        · cases h1
        · split at h2
          · cases h2
          · exact E.ap j l b h1 h2
      · rcases hb.fset with z | z
        · cases z
        · exact .inl z
      · have hji : i ≠ j := fun z => by subst z; rw [h] at hj; cases hj; cases hmj
        exact ⟨rfl, mj, tj, by rw [List.getElem?_set_ne hji]; exact hj, hmj⟩
      · have hji : i ≠ j := fun z => by subst z; rw [h] at hj; cases hj
        refine ⟨rfl, by rw [List.getElem?_set_ne hji]; exact hj, ?_, fun _ _ => rfl⟩
        unfold fset
        rw [if_neg (Ne.symm hji)]
      · obtain ⟨j, hj⟩ := z
        unfold fset at hj
        split at hj
        · cases hj
        · rename_i hne
          exact hne (E.ap j i b hj hb)
    · cases e
end
noncomputable def frzSl (ρ : Rho) (i : Nat) : Option Rho := match ρ[i]? with
  | some (.own .free t) => (t.toD).map fun d => ρ.set i (.val d)
  | some (.val _) => some ρ
  | _ => none
theorem hu65 {k : Nat} {A : Around} (r : Room k A) : A.units + 65 < cLine := by have := r.un; omega
noncomputable def scrD (ns : List Int) : PyData := .dict (ns.map fun i => (.int i, .none))
noncomputable def noTb (H : Hp) : Hp := fun b => match H b with
  | some (.tbl _) => none
  | x => x
theorem noTb_sub {H : Hp} : Same (noTb H) H := fun b o e => by
  unfold noTb at e
  split at e
  · cases e
  · exact e
theorem noTb_of {H : Hp} {b : Addr} {o : HO} (h : H b = some o) (n : ∀ ps, o ≠ .tbl ps) : noTb H b = some o := by
  unfold noTb
  rw [h]
  split
  · rename_i ps e
    exact absurd (Option.some.inj e) (n ps)
  · rfl
theorem noTb_seq {K : Fg} {H : Hp} {a : Addr} {xs : List V} (h : SqL K H a xs) : SqL K (noTb H) a xs := by
  rcases h with (h | ⟨o, h⟩) | h
  · exact .inl (.inl (noTb_of h fun _ z => nomatch z))
  · exact .inl (.inr ⟨o, noTb_of h fun _ z => nomatch z⟩)
  · exact .inr h
noncomputable def Tb0 (K : Fg) (H : Hp) : Prop := ∀ c P, PySem.W.tabIn K "price_meant" = some (c, P) → H P = some (.tbl #[])
theorem tb0_ok {K : Fg} {H : Hp} (h : Tb0 K H) : TbOk K (noTb H) H := fun c P e => by
  have q := h c P e
  refine ⟨?_, #[], q, True.intro, fun pos cv z => ?_⟩
  · unfold noTb
    rw [q]
  · simp [codeAmong] at z
noncomputable def spLaw (K : Fg) : Sp := fun vs H Q _ => ∃ (a : Addr) (ns : List Int), vs = [.ref a] ∧ SqL K H a (ns.map V.int) ∧ ns.length ≤ 63 ∧ Tb0 K H ∧ ∀ H', Q (.bl true) H'
theorem law_imp {K : Fg} {Wx : WX0} {F : Fn} (hF : ∀ ns : List Int, ns.length ≤ 63 → ∃ outs, F [.val (scrD ns)] = some (.ret (.dat (.bool true)), outs)) {vs : List V} {H : Hp} {Q : VK} {E : XK} (h : spLaw K vs H Q E) : spV K Wx 1 F vs H Q E := by
  obtain ⟨a, ns, rfl, hS, hl, h0, k⟩ := h
  obtain ⟨outs, e⟩ := hF ns hl
  refine ⟨rfl, noTb H, [.val (scrD ns)], fun _ => [], _, outs, ⟨noTb_sub, rfl, fun i s hs => ?_, fun _ _ => rfl, fun _ => List.nodup_nil, (fun _ _ _ h => nomatch h), tb0_ok h0, fun j i p t h _ => by
    match j, h with
    | 0, h => cases h
    | j + 1, h => simp at h⟩, e, fun v A H' F' fp' st n => ?_⟩
  · cases i with
    | zero =>
      cases hs
      exact ⟨.ref a, rfl, .scr (noTb_seq hS)⟩
    | succ i => simp at hs
  · generalize hA : A = A' at n
    have q := n.ok
    cases q with
    | dat q =>
      cases q
      exact k H'
noncomputable def TbB (K : Fg) (base : Heap) (mg : Str → Option Value) : Prop := ∀ c P, PySem.W.tabIn K "price_meant" = some (c, P) → LamX.TabB base mg c P
noncomputable def csOf (K : Fg) : List (Addr × Addr) := match PySem.W.tabIn K "price_meant" with
  | some p => [p]
  | none => []
noncomputable def tabChk (q : Program) (K : Fg) : Bool := match PySem.W.tabIn K "price_meant" with
  | some p => (K.lookup p.2).isNone && ((recsOf q).find? fun e : DefRec => e.name == ("price_meant" : Str)).isSome
  | none => true
theorem mem_cs {K : Fg} {p : Addr × Addr} : p ∈ csOf K ↔ PySem.W.tabIn K "price_meant" = some p := by
  unfold csOf
  split
  · rename_i q e
    simp [eq_comm, e]
  · rename_i e
    simp [e]
theorem walk {l : PySem.W.OpenLaw} {q : Program} {loose : List Str} {XP : (Str → Option Value) → Heap → Prop} {YP : World → Heap → Prop} {d : DefRec} {K : Params → PySem.W.Frag} {k : Nat} (hn : l.most = some 63) (hdf : d.params.defaults = []) (hk : Room k callerA)
    (hY : ∀ (w : World) (h : Heap), YP w h → (K w.params).In h) (hT : ∀ w : World, tabChk q (K w.params) = true)
    (F : ∀ (w : World) (mg : Str → Option Value) (fa : Addr) (h : Heap), (K w.params).In h → h.Ns mainGlobals mg → mg d.name = some (.ref fa) →
      ∃ fd : FuncData, (∀ (s : Shared) (u : Value), BindsTo s fd ⟨[u], []⟩ [("script", u)]) ∧ ∀ base : Heap, (K w.params).In base → base.Ns mainGlobals mg → TbB (K w.params) base mg → FnOk l.prog w (K w.params) mg base CX0 k fa fd ["script"] (spLaw (K w.params))) :
    PySem.W.WalkO q loose XP YP l.row.toRowW d [] (fun f vs => PySem.call f vs) := by
  refine Att.attach_callB hn hdf fun w s₀ s₁ mg mb fa o pm cd doc a vs ns G Y ho hd hcd hmg hobj hints hlen hbits hg => ?_
  have KX := hY w _ Y
  obtain ⟨fd, hb, hF⟩ := F w mg fa _ KX G.T.g hmg
  have tk : ∀ p ∈ csOf (K w.params), (K w.params).lookup p.2 = none ∧ PySem.W.CodeHd s₁.heap p.1 p.2 ∧ s₁.heap.get? p.2 = some { cls := .none, data := .fields #[] } := fun p hp => by
    have e := mem_cs.mp hp
    have c := hT w
    unfold tabChk at c
    rw [e] at c
    simp only [Bool.and_eq_true, Option.isNone_iff_eq_none] at c
    obtain ⟨dd, hd⟩ := Option.isSome_iff_exists.mp c.2
    have z := PySem.W.tab_of (x := "price_meant") (c := p.1) (P := p.2) G.T KX hd e
    exact ⟨c.1, z.1, z.2⟩
  refine LamX.law_callTs (cs := csOf (K w.params)) KX G.T.g G.T.b G.T.builtins G.T.nolimit hg (fun p hp => (tk p hp).2.2) (fun p hp => (tk p hp).1) (fun p hp => (tk p hp).2.1) G.T.bmain hobj hints (Nat.le_trans hlen (by decide)) hk
    (fun base h1 h2 h3 => hF base h1 h2 fun c P e => h3 (c, P) (mem_cs.mpr e)) hb (fun H hH hS => ⟨a, ns, rfl, hS, hlen, fun c P e => hH (c, P) (mem_cs.mpr e), fun _ => rfl⟩) fun _ _ _ z => z
noncomputable def KTupV (K : Fg) (t : Addr) (ds : List PyData) : Prop := ∃ vs, (∃ (o : Obj) (its : Array Value) (n : Nat), K.lookup t = some o ∧ o.cls = .type "tuple" ∧ o.data = .seq its n ∧ its.size ≤ sizeLine ∧ Vals vs its.toList) ∧ ∀ F : Hp, DqAll K F vs ds
theorem KTupV.k {K : Fg} {t : Addr} {ds : List PyData} (h : KTupV K t ds) : KTup K t ds := by
  obtain ⟨vs, h1, h2⟩ := h
  exact ⟨vs, fun F => .inr h1, h2⟩
end VL

end

section
set_option Elab.async false
set_option linter.all false
set_option maxRecDepth 100000
namespace VL
open PySem PySem.Spec PyProof.Rows L2 HT
section
variable {prog : Program} {w : World} {A : Around} {E : Value → Shared → Prop} {s : Shared}
end
section
variable {X : Cx} {T : List Nat} {W : WV} {a : Expr} {fa : M Rv} {pos p2 p3 p4 : Pos}
noncomputable def rev1 (x : Rv) : M Rv := fun ρ => match x with
  | .d (.tuple ds) => some (.ok (.d (.tuple ds.reverse)) ρ)
  | _ => none
noncomputable def cRev (f : M Rv) : M Rv := bnd f rev1
end
end VL

end

section
set_option Elab.async false
set_option linter.all false
set_option maxRecDepth 100000
namespace VL
open PySem PySem.Spec PyProof.Rows L2
section
variable {X : Cx} {T T1 T2 : List Nat} {W : WV} {K : Fg}
noncomputable def cCnt1 (ds : List PyData) (y : Rv) : M Rv := fun ρ => match y with
  | .d e => if flatD e && ds.all flatD then some (.ok (.d (.int (ds.countP (fun z => PyData.eqv z e) : Nat))) ρ) else none
  | .o _ => none
noncomputable def cCnt (fo fe : M Rv) : M Rv := bnd fo fun x => match x with
  | .d (.list ds) => bnd fe (cCnt1 ds)
  | _ => fun _ => none
variable {o e : Expr} {fo fe : M Rv} {apos cpos : Pos}
noncomputable def intsD : List PyData → Option (List Int)
  | [] => some []
  | .int i :: ds => (intsD ds).map (i :: ·)
  | _ :: _ => none
theorem ints_ok {F : Hp} : ∀ {vs : List V} {ds : List PyData} {ns : List Int}, DqAll K F vs ds → intsD ds = some ns → vs = ns.map V.int
  | _, _, _, .nil, e => by simp only [intsD] at e; cases e; rfl
  | _, _, _, .cons (d := d) h t, e => by
    cases d <;> simp only [intsD] at e <;> try (cases e; done)
    obtain ⟨ms, e1, rfl⟩ := map_some e
    cases h
    rw [ints_ok t e1]
    rfl
noncomputable def sumD : List PyData → Option PyData
  | [.list ds] => (intsD ds).map fun ns => .int ns.sum
  | _ => none
noncomputable def maxI : Int → List Int → Int
  | m, [] => m
  | m, i :: is => maxI (if i > m then i else m) is
noncomputable def minI : Int → List Int → Int
  | m, [] => m
  | m, i :: is => minI (if i < m then i else m) is
noncomputable def maxD : List PyData → Option PyData
  | [.list ds] => (match intsD ds with
    | some (n :: ns) => some (.int (maxI n ns))
    | _ => none)
  | _ => none
end
end VL

end

section
set_option Elab.async false
set_option linter.all false
set_option maxRecDepth 100000
namespace VL
open PySem PySem.Spec PyProof.Rows L2
noncomputable def keyD : PyData → Option Key
  | .int i => some (.inl i)
  | .str z => some (.inr z)
  | _ => none
noncomputable def keysD : List PyData → Option (List Key)
  | [] => some []
  | d :: ds => match keyD d, keysD ds with
    | some k, some ks => some (k :: ks)
    | _, _ => none
noncomputable def keyT : PyData → Option (List Key)
  | .tuple ds => if kOk ds then none else keysD ds
  | _ => none
section
variable {K : Fg} {F : Hp}
theorem keyD_ok {v : V} {d : PyData} {k : Key} (h : Dq K F v d) (e : keyD d = some k) : v = kV k := by
  cases h <;> simp only [keyD] at e <;> first | (cases e; rfl) | cases e
theorem keysD_ok : ∀ {vs : List V} {ds : List PyData} {ks : List Key}, DqAll K F vs ds → keysD ds = some ks → vs = ks.map kV
  | _, _, _, .nil, e => by simp only [keysD] at e; cases e; rfl
  | _, _, _, .cons h t, e => by
    simp only [keysD] at e
    split at e
    · rename_i k ks e1 e2
      cases e
      rw [keyD_ok h e1, keysD_ok t e2]
      rfl
    · cases e
theorem keyT_ok {v : V} {d : PyData} {k : List Key} (h : Dq K F v d) (e : keyT d = some k) : ∃ b, v = .ref b ∧ F b = some (.tup (k.map kV)) := by
  cases h with
  | tups hs ha =>
    simp only [keyT] at e
    split at e
    · cases e
    · rename_i hk
      rcases hs with hs | ⟨hk', _⟩
      · exact ⟨_, rfl, by rw [← keysD_ok ha e]; exact hs⟩
      · exact absurd hk' hk
  | _ => simp [keyT] at e
end
noncomputable def getK {κ : Type} [DecidableEq κ] (kvs : List (κ × Tr)) (k : κ) : Option Tr := (kvs.find? fun kv => decide (kv.1 = k)).map (·.2)
noncomputable def lookP {κ : Type} [DecidableEq κ] (kvs : List (κ × PyData)) (k : κ) : Option PyData := (kvs.find? fun kv => decide (kv.1 = k)).map (·.2)
noncomputable def dictAt (t : Tr) (d : PyData) : Option (Option PyData) := match t with
  | .dk kvs => (match keyD d with
    | some k => (match getK kvs k with
      | none => some none
      | some (.dat e) => some (some e)
      | some _ => none)
    | none => none)
  | .dt kvs => (match keyT d with
    | some k => (match getK kvs k with
      | none => some none
      | some (.dat e) => some (some e)
      | some _ => none)
    | none => none)
  | .fk kvs => (match keyD d with
    | some k => some (lookP kvs k)
    | none => none)
  | .ft kvs => (match keyT d with
    | some k => some (lookP kvs k)
    | none => none)
  | .sd kvs => (match keyD d with
    | some k => some (lookP kvs k)
    | none => none)
  | _ => none
theorem prs_get {κ : Type} [DecidableEq κ] {K : Fg} {F : Hp} {k : κ} : ∀ {vs : List (κ × V)} {ds : List (κ × PyData)}, vs.map (·.1) = ds.map (·.1) → DqAll K F (vs.map (·.2)) (ds.map (·.2)) →
    (lookP ds k = none → valV vs k = none) ∧ ∀ e, lookP ds k = some e → ∃ v, valV vs k = some v ∧ Dq K F v e
  | [], [], _, _ => ⟨fun _ => rfl, fun e h => by simp [lookP] at h⟩
  | [], _ :: _, h, _ => by simp at h
  | _ :: _, [], h, _ => by simp at h
  | (k1, v1) :: vs, (k2, t2) :: ts, h, q => by
    simp only [List.map_cons, List.cons.injEq] at h
    obtain ⟨h1, h2⟩ := h
    subst h1
    simp only [List.map_cons] at q
    cases q with
    | cons q1 q2 =>
      obtain ⟨a1, a2⟩ := prs_get (k := k) h2 q2
      unfold lookP valV at *
      by_cases hk : k1 = k
      · simp only [List.find?_cons, hk, decide_true, Option.map_some]
        refine ⟨fun h => (by cases h), fun e h => ?_⟩
        cases (Option.some.inj h)
        exact ⟨_, rfl, q1⟩
      · simp only [List.find?_cons, hk, decide_false]
        exact ⟨a1, a2⟩
theorem getK_ok {κ : Type} [DecidableEq κ] {K : Fg} {F H : Hp} {k : κ} : ∀ {vs : List (κ × V)} {ts : List (κ × Tr)} {A : List Addr}, vs.map (·.1) = ts.map (·.1) → TrsOk K F H (vs.map (·.2)) (ts.map (·.2)) A →
    (getK ts k = none → valV vs k = none) ∧ ∀ e, getK ts k = some (.dat e) → ∃ v, valV vs k = some v ∧ Dq K F v e
  | [], [], _, _, _ => ⟨fun _ => rfl, fun e h => by simp [getK] at h⟩
  | [], _ :: _, _, h, _ => by simp at h
  | _ :: _, [], _, h, _ => by simp at h
  | (k1, v1) :: vs, (k2, t2) :: ts, A, h, q => by
    simp only [List.map_cons, List.cons.injEq] at h
    obtain ⟨h1, h2⟩ := h
    subst h1
    simp only [List.map_cons] at q
    cases q with
    | cons q1 q2 =>
      obtain ⟨a1, a2⟩ := getK_ok (k := k) h2 q2
      unfold getK valV at *
      by_cases hk : k1 = k
      · simp only [List.find?_cons, hk, decide_true, Option.map_some]
        refine ⟨fun h => (by cases h), fun e h => ?_⟩
        cases (Option.some.inj h)
        cases q1 with
        | dat q1 => exact ⟨_, rfl, q1⟩
      · simp only [List.find?_cons, hk, decide_false]
        exact ⟨a1, a2⟩
theorem dict_get {K : Fg} {F H : Hp} {v w : V} {t : Tr} {B : List Addr} {d : PyData} {r : Option PyData} (s : Same F H) (q : TrOk K F H v t B) (hk : Dq K F w d) (e : dictAt t d = some r) :
    ∃ a o, v = .ref a ∧ DGet H a w o ∧ (r = none → o = none) ∧ ∀ z, r = some z → ∃ x, o = some x ∧ Dq K F x z := by
  unfold dictAt at e
  split at e
  · split at e
    · rename_i kvs k ek
      have ew := keyD_ok hk ek
      subst ew
      cases q with
      | dk h1 h2 h3 h4 =>
        obtain ⟨g1, g2⟩ := getK_ok (k := k) h3 h4
        refine ⟨_, _, rfl, DGet.k h1, ?_⟩
        split at e
        · rename_i hn
          cases e
          exact ⟨fun _ => g1 hn, (fun z hz => nomatch hz)⟩
        · rename_i z hz
          cases e
          refine ⟨(fun hz => nomatch hz), fun z' hz' => ?_⟩
          cases hz'
          exact g2 _ hz
        · cases e
    · cases e
  · split at e
    · rename_i kvs k ek
      obtain ⟨b, rfl, hb⟩ := keyT_ok hk ek
      cases q with
      | dt h1 h2 h3 h4 =>
        obtain ⟨g1, g2⟩ := getK_ok (k := k) h3 h4
        refine ⟨_, _, rfl, DGet.t h1 (s _ _ hb), ?_⟩
        split at e
        · rename_i hn
          cases e
          exact ⟨fun _ => g1 hn, (fun z hz => nomatch hz)⟩
        · rename_i z hz
          cases e
          refine ⟨(fun hz => nomatch hz), fun z' hz' => ?_⟩
          cases hz'
          exact g2 _ hz
        · cases e
    · cases e
  · split at e
    · rename_i kvs k ek
      have ew := keyD_ok hk ek
      subst ew
      cases e
      cases q with
      | @fk a o vs _ h1 h2 h3 =>
        obtain ⟨g1, g2⟩ := prs_get (k := k) h3.1 h3.2
        exact ⟨_, _, rfl, .inl ⟨vs, k, .inr ⟨o, h1⟩, rfl, rfl⟩, g1, g2⟩
    · cases e
  · split at e
    · rename_i kvs k ek
      obtain ⟨b, rfl, hb⟩ := keyT_ok hk ek
      cases e
      cases q with
      | @ft a o vs _ h1 h2 h3 =>
        obtain ⟨g1, g2⟩ := prs_get (k := k) h3.1 h3.2
        exact ⟨_, _, rfl, .inr ⟨vs, k, b, .inr ⟨o, h1⟩, rfl, s _ _ hb, rfl⟩, g1, g2⟩
    · cases e
  · split at e
    · rename_i kvs k ek
      have ew := keyD_ok hk ek
      subst ew
      cases e
      cases q with
      | @sd a o vs _ h1 h3 =>
        obtain ⟨g1, g2⟩ := prs_get (k := k) h3.1 h3.2
        exact ⟨_, _, rfl, .inl ⟨vs, k, .inr ⟨o, s _ _ h1⟩, rfl, rfl⟩, g1, g2⟩
    · cases e
  · cases e
section
variable {X : Cx} {T T1 T2 T3 : List Nat} {W : WV} {fk fx : M Rv} {fp1 : M (Nat × List Nat)} {i o e : Expr} {pos : Pos}
noncomputable def dIn1 (neg : Bool) (y : Rv) (r : Nat × List Nat) : M Bool := fun ρ => match y, treeAt ρ r with
  | .d d, some t => (match dictAt t d with
    | some z => some (.ok (if neg then !z.isSome else z.isSome) ρ)
    | none => none)
  | _, _ => none
noncomputable def cDIn (neg : Bool) (fk : M Rv) (f : M (Nat × List Nat)) : M Bool := bnd fk fun y => bnd f (dIn1 neg y)
noncomputable def dGet1 (T2 : List Nat) (r : Nat × List Nat) (y : Rv) : M Rv := fun ρ => if T2.contains r.1 then none else match y, treeAt ρ r with
  | .d d, some t => (match dictAt t d with
    | some (some z) => some (.ok (.d z) ρ)
    | _ => none)
  | _, _ => none
noncomputable def cDGet (T2 : List Nat) (f : M (Nat × List Nat)) (fk : M Rv) : M Rv := bnd f fun r => bnd fk (dGet1 T2 r)
theorem not_in {T : List Nat} {j : Nat} (h : ¬ T.contains j = true) : j ∉ T := fun z => h (List.contains_iff_mem.mpr z)
theorem ve_dget (hu : X.A.units + 1 < cLine) (ho : VP X T1 W o fp1) (hi : VE X T2 W i fk) (hT : T2 = T3 := by rfl) (hs : NoSl i := by intro _ _; rfl) : VE X (T1 ++ T2) W (.Subscript o i pos) (cDGet T3 fp1 fk) :=
  pe_imp (pe_dget hu ho hi hs) fun σ H Q ⟨F, ρ, fp, ou, E, q, P⟩ => by
    subst hT
    refine tv_bnd E q P (fun j hj => List.mem_append_left _ hj) fun r ρ1 v H1 F1 fp1 s1 r1 e1 P1 => ?_
    refine tv_bnd s1.env e1 P1 (fun j hj => List.mem_append_right _ hj) fun y ρ2 w H2 F2 fp2 s2 r2 e2 P2 => ?_
    unfold dGet1 at e2
    split at e2
    · cases e2
    · rename_i hc
      have pl := place_step s1.env s2 (not_in hc) r1
      split at e2
      · rename_i d t ht
        split at e2
        · rename_i z hz
          cases ok_inj e2
          obtain ⟨B, qB, _⟩ := place_get s2.env pl ht
          obtain ⟨a, oo, rfl, g, g1, g2⟩ := dict_get s2.env.sub qB (show Dq X.K F2 w d from r2) hz
          obtain ⟨x, rfl, hx⟩ := g2 z rfl
          exact ⟨a, x, rfl, g, P2 _ H2 F2 fp2 (.refl s2.env) hx⟩
        · cases e2
      · cases e2
noncomputable def isDk : Option Tr → Bool
  | some (.dk _) => true
  | some (.dt _) => true
  | _ => false
noncomputable def dGet2 (T2 : List Nat) (r : Nat × List Nat) (y x : Rv) : M Rv := fun ρ => if T2.contains r.1 then none else match y, x, treeAt ρ r with
  | .d d, .d u, some t => (match dictAt t d with
    | some z => some (.ok (.d (z.getD u)) ρ)
    | none => none)
  | _, _, _ => none
noncomputable def cDGet2 (T2 : List Nat) (f : M (Nat × List Nat)) (fk fx : M Rv) : M Rv := bnd f fun r => fun ρ => if isDk (treeAt ρ r) then (bnd fk fun y => bnd fx (dGet2 T2 r y)) ρ else none
theorem isDk_ok {K : Fg} {F H : Hp} {v : V} {t : Tr} {B : List Addr} (q : TrOk K F H v t B) (h : isDk (some t) = true) : ∃ a, v = .ref a ∧ IsD H a := by
  cases q with
  | dk h1 _ _ _ => exact ⟨_, rfl, .inl ⟨_, .inl h1⟩⟩
  | dt h1 _ _ _ => exact ⟨_, rfl, .inr ⟨_, .inl h1⟩⟩
  | _ => cases h
theorem ve_dget2 {apos cpos : Pos} (hu : X.A.units + 1 < cLine) (ho : VP X T1 W o fp1) (hi : VE X T2 W i fk) (he : VE X T3 W e fx) (hT : T2 ++ T3 = T := by rfl) (m : M2 X o "get" apos i e cpos := by exact ⟨rfl, rfl, rfl, rfl⟩) :
    VE X (T1 ++ (T2 ++ T3)) W (.Call (.Attribute o "get" apos) [i, e] [] cpos) (cDGet2 T fp1 fk fx) :=
  pe_imp (pe_dget2 hu ho hi he m) fun σ H Q ⟨F, ρ, fp, ou, E, q, P⟩ => by
    subst hT
    refine tv_bnd E q P (fun j hj => List.mem_append_left _ hj) fun r ρ1 v H1 F1 fp1 s1 r1 e1 P1 => ?_
    split at e1
    · rename_i hd
      cases ht1 : treeAt ρ1 r with
      | none => rw [ht1] at hd; cases hd
      | some t1 =>
        rw [ht1] at hd
        obtain ⟨B1, qB1, _⟩ := place_get s1.env r1 ht1
        obtain ⟨a, rfl, hD⟩ := isDk_ok qB1 hd
        refine ⟨a, rfl, hD, ?_⟩
        refine tv_bnd s1.env e1 P1 (fun j hj => List.mem_append_right _ (List.mem_append_left _ hj)) fun y ρ2 w H2 F2 fp2 s2 r2 e2 P2 => ?_
        refine tv_bnd s2.env e2 P2 (fun j hj => List.mem_append_right _ (List.mem_append_right _ hj)) fun x ρ3 z H3 F3 fp3 s3 r3 e3 P3 => ?_
        unfold dGet2 at e3
        split at e3
        · cases e3
        · rename_i hc
          have hn := not_in hc
          have pl := place_step s2.env s3 (fun z => hn (List.mem_append_right _ z)) (place_step s1.env s2 (fun z => hn (List.mem_append_left _ z)) r1)
          split at e3
          · rename_i d u t ht
            split at e3
            · rename_i zz hz
              cases ok_inj e3
              obtain ⟨B, qB, _⟩ := place_get s3.env pl ht
              have hk : Dq X.K F3 w d := RvOk.step s3 (show RvOk X.K F2 σ ρ2 w (.d d) from r2)
              obtain ⟨a', oo, ea, g, g1, g2⟩ := dict_get s3.env.sub qB hk hz
              cases ea
              refine ⟨oo, g, ?_⟩
              cases zz with
              | none =>
                rw [g1 rfl]
                exact P3 _ H3 F3 fp3 (.refl s3.env) r3
              | some zz =>
                obtain ⟨x, rfl, hx⟩ := g2 zz rfl
                exact P3 _ H3 F3 fp3 (.refl s3.env) hx
            · cases e3
          · cases e3
    · cases e1
noncomputable def nNew (t : Tr) : M Tr := ret t
theorem new_dk {K : Fg} {T : List Nat} {F H : Hp} {σ : Sg} {ρ : Rho} {fp : FP} {p : Addr} (E : EnvOk K F H σ ρ fp) (np : H p = none) :
    EStep K T F H σ ρ fp F (upd H p (.dK [])) ρ fp ∧ NewOk K H fp F (upd H p (.dK [])) fp (.ref p) (.dk []) [p] := by
  refine ⟨(Grow.lay (.dK []) E.sub np).step E, .dk upd_same (E.sub.free np) rfl .nil, by simp, fun b hb => ?_, fun b hb ho => ?_⟩
  · rw [List.mem_singleton.mp hb]; exact .inl np
  · rw [List.mem_singleton.mp hb] at ho
    exact (E.there ho).1 np
theorem new_dt {K : Fg} {T : List Nat} {F H : Hp} {σ : Sg} {ρ : Rho} {fp : FP} {p : Addr} (E : EnvOk K F H σ ρ fp) (np : H p = none) :
    EStep K T F H σ ρ fp F (upd H p (.dT [])) ρ fp ∧ NewOk K H fp F (upd H p (.dT [])) fp (.ref p) (.dt []) [p] := by
  refine ⟨(Grow.lay (.dT []) E.sub np).step E, .dt upd_same (E.sub.free np) rfl .nil, by simp, fun b hb => ?_, fun b hb ho => ?_⟩
  · rw [List.mem_singleton.mp hb]; exact .inl np
  · rw [List.mem_singleton.mp hb] at ho
    exact (E.there ho).1 np
theorem vn_dk : VN X T W (.Dict [] [] pos) (nNew (.dk [])) := pe_imp pe_dnewK fun σ H Q ⟨F, ρ, fp, o, E, e, P⟩ => by
  cases ok_inj e
  intro p np
  have z := new_dk (T := T) E np
  exact P _ _ _ fp z.1 ⟨_, z.2⟩
theorem vn_dt : VN X T W (.Dict [] [] pos) (nNew (.dt [])) := pe_imp pe_dnewT fun σ H Q ⟨F, ρ, fp, o, E, e, P⟩ => by
  cases ok_inj e
  intro p np
  have z := new_dt (T := T) E np
  exact P _ _ _ fp z.1 ⟨_, z.2⟩
end
section
variable {κ : Type} [DecidableEq κ]
noncomputable def dats : List (κ × Tr) → Option (List (κ × PyData))
  | [] => some []
  | (k, .dat d) :: ts => (dats ts).map ((k, d) :: ·)
  | _ :: _ => none
noncomputable def toT (ds : List (κ × PyData)) : List (κ × Tr) := ds.map fun p => (p.1, .dat p.2)
noncomputable def putP (ds : List (κ × PyData)) (k : κ) (d : PyData) : List (κ × PyData) :=
  if (ds.any fun kv => decide (kv.1 = k)) = true then ds.map (fun kv => if kv.1 = k then (kv.1, d) else kv) else ds ++ [(k, d)]
theorem dats_ok {K : Fg} {F H : Hp} : ∀ {vs : List (κ × V)} {ts : List (κ × Tr)} {ds : List (κ × PyData)} {A : List Addr}, vs.map (·.1) = ts.map (·.1) → TrsOk K F H (vs.map (·.2)) (ts.map (·.2)) A → dats ts = some ds → A = [] ∧ Prs K F vs ds
  | [], [], ds, _, _, q, e => by
    simp only [dats] at e
    cases e
    cases q
    exact ⟨rfl, rfl, .nil⟩
  | [], _ :: _, _, _, h, _, _ => by simp at h
  | _ :: _, [], _, _, h, _, _ => by simp at h
  | (k1, v1) :: vs, (k2, t2) :: ts, ds, A, h, q, e => by
    simp only [List.map_cons, List.cons.injEq] at h
    obtain ⟨h1, h2⟩ := h
    subst h1
    cases t2 with
    | dat d =>
      simp only [dats] at e
      obtain ⟨es, e1, rfl⟩ := map_some e
      simp only [List.map_cons] at q
      cases q with
      | cons q1 q2 =>
        cases q1 with
        | dat q1 =>
          obtain ⟨a1, a2, a3⟩ := dats_ok h2 q2 e1
          subst a1
          exact ⟨rfl, by simp [a2], .cons q1 a3⟩
    | _ => simp [dats] at e
theorem prs_put {K : Fg} {F : Hp} {k : κ} {v : V} {d : PyData} (hv : Dq K F v d) {vs : List (κ × V)} {ds : List (κ × PyData)} (h : Prs K F vs ds) : Prs K F (putK vs k v) (putP ds k d) := by
  obtain ⟨h1, h2⟩ := h
  have ha : ∀ {vs : List (κ × V)} {ds : List (κ × PyData)}, vs.map (·.1) = ds.map (·.1) → (vs.any fun kv => decide (kv.1 = k)) = ds.any fun kv => decide (kv.1 = k) := by
    intro vs
    induction vs with
    | nil => intro ds e; cases ds with
      | nil => rfl
      | cons _ _ => simp at e
    | cons x vs ih => intro ds e; cases ds with
      | nil => simp at e
      | cons y ds =>
        simp only [List.map_cons, List.cons.injEq] at e
        simp only [List.any_cons, e.1, ih e.2]
  unfold putK putP
  rw [ha h1]
  split
  · have hm : ∀ {vs : List (κ × V)} {ds : List (κ × PyData)}, vs.map (·.1) = ds.map (·.1) → DqAll K F (vs.map (·.2)) (ds.map (·.2)) → Prs K F (vs.map fun kv => if kv.1 = k then (kv.1, v) else kv) (ds.map fun kv => if kv.1 = k then (kv.1, d) else kv) := by
      intro vs
      induction vs with
      | nil => intro ds e q; cases ds with
        | nil => exact ⟨rfl, .nil⟩
        | cons _ _ => simp at e
      | cons x vs ih => intro ds e q; cases ds with
        | nil => simp at e
        | cons y ds =>
          simp only [List.map_cons, List.cons.injEq] at e q
          cases q with
          | cons q1 q2 =>
            obtain ⟨a1, a2⟩ := ih e.2 q2
            by_cases hk : y.1 = k
            · refine ⟨?_, ?_⟩
              · simp only [List.map_cons, e.1, hk, if_true, List.cons.injEq, true_and]; exact a1
              · simp only [List.map_cons, e.1, hk, if_true]; exact .cons hv a2
            · refine ⟨?_, ?_⟩
              · simp only [List.map_cons, e.1, hk, if_false, List.cons.injEq, true_and]; exact a1
              · simp only [List.map_cons, e.1, hk, if_false]; exact .cons q1 a2
    exact hm h1 h2
  · refine ⟨by simp [h1], ?_⟩
    simp only [List.map_append, List.map_cons, List.map_nil]
    exact dqAll_app h2 (.cons hv .nil)
end
theorem toT_snd {κ : Type} {ds : List (κ × PyData)} : (toT ds).map (·.2) = (ds.map (·.2)).map .dat := by simp [toT]
theorem toT_fst {κ : Type} {ds : List (κ × PyData)} : (toT ds).map (·.1) = ds.map (·.1) := by simp [toT]
noncomputable def dPut1 (T2 : List Nat) (d : PyData) (r : Nat × List Nat) (y : Rv) : MS := fun ρ => if T2.contains r.1 || !modeOk ρ r.1 then none else match y, treeAt ρ r with
  | .d kd, some (.dk kvs) => (match keyD kd, dats kvs with
    | some k, some ds => if small (ds.length + 1) then some (.nx (putAt ρ r (.dk (toT (putP ds k d))))) else none
    | _, _ => none)
  | .d kd, some (.dt kvs) => (match keyT kd, dats kvs with
    | some k, some ds => if small (ds.length + 1) then some (.nx (putAt ρ r (.dt (toT (putP ds k d))))) else none
    | _, _ => none)
  | _, _ => none
noncomputable def sDPut (T2 : List Nat) (fe : M Rv) (f : M (Nat × List Nat)) (fk : M Rv) : MS := sE fe fun x => match x with
  | .d d => sE f fun r => sE fk (dPut1 T2 d r)
  | .o _ => fun _ => none
section
variable {X : Cx} {T1 T2 T3 T4 : List Nat} {W : WV} {fe fk : M Rv} {fp1 : M (Nat × List Nat)} {i o e : Expr} {pos pos' : Pos}
theorem vs_dput (hu : X.A.units + 1 < cLine) (he : VE X T1 W e fe) (ho : VP X T2 W o fp1) (hi : VE X T3 W i fk) (hT : T3 = T4 := by rfl) (hs : swapsWith e (some (.Subscript o i pos')) pos.line X.env = pure false := by rfl) :
    VS X W (.Assign [.Subscript o i pos'] e pos) (sDPut T4 fe fp1 fk) :=
  ps_imp (ps_dput hu ho hi he hs) fun D σ H ⟨F, ρ, fp, ou, E, q, P⟩ => by
    subst hT
    refine tv_st E q P fun x ρ1 v H1 F1 fp1 s1 r1 e1 P1 => ?_
    cases x with
    | o _ => cases e1
    | d d =>
      refine tv_st (T := T2) s1.env e1 P1 fun r ρ2 w H2 F2 fp2 s2 r2 e2 P2 => ?_
      refine tv_st (T := T3) s2.env e2 P2 fun y ρ3 z H3 F3 fp3 s3 r3 e3 _ => ?_
      unfold dPut1 at e3
      split at e3
      · cases e3
      · rename_i hc
        obtain ⟨hT, hc'⟩ := touch_of hc
        have pl := place_step s2.env s3 hT r2
        have hd3 : Dq X.K F3 v d := dq_mono (s2.st.fr.trans s3.st.fr) _ _ r1
        split at e3
        · rename_i kd kvs hts
          split at e3
          · rename_i k ds hk hds
            split at e3
            · rename_i hsm
              cases (Option.some.inj e3)
              have ez := keyD_ok (show Dq X.K F3 z kd from r3) hk
              subst ez
              obtain ⟨B, qB, hB⟩ := place_get s3.env pl hts
              obtain ⟨u, m, t, t', h1, h2, h3, h4⟩ := pl
              have ht' : t.at r.2 = some (.dk kvs) := by
                unfold treeAt at hts
                rw [h2] at hts
                exact hts
              cases qB with
              | @dk a vs _ B0 f1 f2 f3 f4 =>
                obtain ⟨_, pr⟩ := dats_ok f3 f4 hds
                have pp := prs_put (k := k) hd3 pr
                obtain ⟨fp', st, _⟩ := mut_step (A := []) (o := .dK (putK vs k v)) (t'' := .dk (toT (putP ds k d))) s3 h2 (mode_of hc' h2) h1 ht' h4 (fun b hb => nomatch hb) List.nodup_nil (fun b hb => nomatch hb) fun B1 q1 nB1 _ => by
                  cases q1 with
                  | @dk a _ _ B2 g1 g2 g3 g4 =>
                    refine ⟨List.mem_cons_self, [a], .dk upd_same g2 (by rw [toT_fst]; exact pp.1) ?_, by simp, fun b hb => .inl ?_⟩
                    · rw [toT_snd]
                      exact trs_dat pp.2
                    · rw [List.mem_singleton.mp hb]; exact List.mem_cons_self
                have e : putAt ρ3 r (.dk (toT (putP ds k d))) = ρ3.set r.1 (.own m (t.put r.2 (.dk (toT (putP ds k d))))) := by
                  unfold putAt
                  rw [h2]
                have hl : vs.length = ds.length := by
                  have := congrArg List.length pr.1
                  simpa using this
                refine ⟨a, _, rfl, DPut.k f1 (by have := small_iff.mp hsm; omega), P2 σ _ F3 fp' ?_⟩
                rw [e]
                exact st.st
            · cases e3
          · cases e3
        · rename_i kd kvs hts
          split at e3
          · rename_i k ds hk hds
            split at e3
            · rename_i hsm
              cases (Option.some.inj e3)
              obtain ⟨b, rfl, hbk⟩ := keyT_ok (show Dq X.K F3 z kd from r3) hk
              obtain ⟨B, qB, hB⟩ := place_get s3.env pl hts
              obtain ⟨u, m, t, t', h1, h2, h3, h4⟩ := pl
              have ht' : t.at r.2 = some (.dt kvs) := by
                unfold treeAt at hts
                rw [h2] at hts
                exact hts
              cases qB with
              | @dt a vs _ B0 f1 f2 f3 f4 =>
                obtain ⟨_, pr⟩ := dats_ok f3 f4 hds
                have pp := prs_put (k := k) hd3 pr
                obtain ⟨fp', st, _⟩ := mut_step (A := []) (o := .dT (putK vs k v)) (t'' := .dt (toT (putP ds k d))) s3 h2 (mode_of hc' h2) h1 ht' h4 (fun b hb => nomatch hb) List.nodup_nil (fun b hb => nomatch hb) fun B1 q1 nB1 _ => by
                  cases q1 with
                  | @dt a _ _ B2 g1 g2 g3 g4 =>
                    refine ⟨List.mem_cons_self, [a], .dt upd_same g2 (by rw [toT_fst]; exact pp.1) ?_, by simp, fun b hb => .inl ?_⟩
                    · rw [toT_snd]
                      exact trs_dat pp.2
                    · rw [List.mem_singleton.mp hb]; exact List.mem_cons_self
                have e : putAt ρ3 r (.dt (toT (putP ds k d))) = ρ3.set r.1 (.own m (t.put r.2 (.dt (toT (putP ds k d))))) := by
                  unfold putAt
                  rw [h2]
                have hl : vs.length = ds.length := by
                  have := congrArg List.length pr.1
                  simpa using this
                refine ⟨a, _, rfl, DPut.t f1 (s3.env.sub _ _ hbk) (by have := small_iff.mp hsm; omega), P2 σ _ F3 fp' ?_⟩
                rw [e]
                exact st.st
            · cases e3
          · cases e3
        · cases e3
end
theorem hu1 {n : Nat} (h : n + 65 < cLine) : n + 1 < cLine := by omega
end VL

end

section
set_option Elab.async false
set_option linter.all false
set_option maxRecDepth 100000
namespace VL
open PySem PySem.Spec PyProof.Rows L2 PySem.W
section
variable {X : Cx} {K : Fg}
noncomputable def rSortD (K : Fg) : List V → Hp → VK → Prop := fun xs H Q => ∃ (a : Addr) (bs : List (V × PyData)), xs = [.ref a] ∧ Rd H a (.lst (bs.map (·.1))) ∧ (∀ b ∈ bs, Dp K H b.1 b.2 ∧ b.2.depth ≤ 60) ∧ AllAlike (bs.map (·.2)) ∧ Sortable (bs.map (·.2)) ∧
  ∀ p, H p = none → Q (.ref p) (upd H p (.lst ((bs.mergeSort (dataLe false (·.2))).map (·.1))))
theorem each_vals : ∀ {bs : List (V × PyData)} {us : List Value}, Vals (bs.map (·.1)) us → EachIs (fun v (b : V × PyData) => RelV b.1 v) us bs
  | [], us, r => by cases r; exact .nil
  | b :: bs, us, r => by
    cases r with
    | cons r t => exact .cons r (each_vals t)
theorem vals_each : ∀ {bs : List (V × PyData)} {us : List Value}, EachIs (fun v (b : V × PyData) => RelV b.1 v) us bs → Vals (bs.map (·.1)) us
  | _, _, .nil => .nil
  | _, _, .cons r t => .cons r (vals_each t)
theorem each_reads {pins : List (Addr × Obj)} {σ : Sg} {H : Hp} {s : Shared} (I : L2.Inv X pins σ H s) : ∀ {bs : List (V × PyData)} {us : List Value}, (∀ b ∈ bs, Dp X.K H b.1 b.2) → Vals (bs.map (·.1)) us → EachIs (fun v (b : V × PyData) => ∃ as, Reads s.heap v b.2 as) us bs
  | [], us, _, r => by cases r; exact .nil
  | b :: bs, us, h, r => by
    cases r with
    | cons r t => exact .cons (Dp.reads I _ _ _ (h b List.mem_cons_self) r) (each_reads I (fun c hc => h c (List.mem_cons_of_mem _ hc)) t)
theorem cr_sortD (hu : X.A.units + 65 < cLine) : CallR X (.builtin "sorted") (rSortD X.K) := by
  intro pins s σ H xs us Q I r h
  obtain ⟨a, bs, rfl, hs, hb, hal, hk, q⟩ := h
  obtain ⟨its, rv, hl, hz⟩ := I.list (.inl hs)
  rw [Vals.ref1 r]
  have hz' : bs.length ≤ sizeLine := by simpa using hz
  refine sorted_data (vs := its) (bs := bs) (enc := (·.2)) (R := fun v b => RelV b.1 v) hl.isList (each_vals rv) (each_reads I (fun b hm => (hb b hm).1) rv) hal hk hz' (fun b hm => by have := (hb b hm).2; show X.A.units + 2 + b.2.depth < cLine; omega) fun out ho he => ?_
  obtain ⟨c, hc⟩ := sortedAll_at s.heap its out.toArray
  have vs := vals_each he
  refine ⟨.ref (s.heap.objs.size + 1), _, I.laid (t' := s.toks) (o := .lst ((bs.mergeSort (dataLe false (·.2))).map (·.1))) (fun b ob q => sortedAll_old q) (Nat.le_succ _) ⟨?_, out, c, vs, hc⟩, rfl, q _ (I.hok.fresh (Nat.le_succ _))⟩
  rw [vs.length, ho]
  exact hz'
end
end VL

end

section
set_option Elab.async false
set_option linter.all false
set_option maxRecDepth 100000
namespace VL
open PySem PySem.Spec PyProof.Rows L2
theorem ne_ge {a B b : Nat} (h : a < B) (h' : B ≤ b) : b ≠ a := by omega
theorem ne_le {a B b : Nat} (h : a < B) (h' : B ≤ b) : a ≠ b := by omega
noncomputable def ZSt (z TI TO i1 i2 l1 l2 : Addr) (xs ys : Array Value) (S : Addr) (i : Nat) (h : Heap) : Prop :=
  IsPair h TI (.ref i1) (.ref i2) ∧ h.IsListIter i1 l1 i ∧ h.IsListIter i2 l2 i ∧ h.IsList l1 xs ∧ h.IsList l2 ys ∧
    ((IsZip h z TI TO .none ∧ ∃ a b, IsPair h TO a b) ∨ ∃ T f oT, IsZipHeld h z TI TO T f ∧ h.get? T = some oT ∧ T ≠ z ∧ T ≠ i1 ∧ T ≠ i2 ∧ T ≠ S)
structure ZAp (z TI TO i1 i2 l1 l2 S : Addr) : Prop where
  sz : S ≠ z
  sTI : S ≠ TI
  sTO : S ≠ TO
  s1 : S ≠ i1
  s2 : S ≠ i2
  sl1 : S ≠ l1
  sl2 : S ≠ l2
theorem ZSt.frame {z TI TO i1 i2 l1 l2 S : Addr} {xs ys : Array Value} {i : Nat} {h h' : Heap} (D : ZAp z TI TO i1 i2 l1 l2 S) (st : ZSt z TI TO i1 i2 l1 l2 xs ys S i h) (k : ∀ b o, b ≠ S → h.get? b = some o → h'.get? b = some o) : ZSt z TI TO i1 i2 l1 l2 xs ys S i h' := by
  obtain ⟨a1, a2, a3, a4, a5, a6⟩ := st
  refine ⟨k _ _ D.sTI.symm a1, a2.at fun o e => k _ o D.s1.symm e, a3.at fun o e => k _ o D.s2.symm e, a4.at fun o e => k _ o D.sl1.symm e, a5.at fun o e => k _ o D.sl2.symm e, ?_⟩
  rcases a6 with ⟨hz, a, b, hTO⟩ | ⟨T, f, oT, hz, hT, r1, r2, r3, r4⟩
  · exact .inl ⟨k _ _ D.sz.symm hz, a, b, k _ _ D.sTO.symm hTO⟩
  · exact .inr ⟨T, f, oT, k _ _ D.sz.symm hz, k _ _ r4 hT, r1, r2, r3, r4⟩
noncomputable def Made (B : Nat) (Ts : List Addr) (xs ys : Array Value) (h : Heap) : Prop := (∀ T ∈ Ts, B ≤ T) ∧ Ts.Nodup ∧ ∀ (j : Nat) (T : Addr), Ts[j]? = some T → ∃ x y, xs[j]? = some x ∧ ys[j]? = some y ∧ IsPair h T x y
section
variable {prog : Program} {w : World} {A : Around} {R : Result → Shared → Prop} {z TI TO i1 i2 l1 l2 S : Addr} {xs ys : Array Value}
theorem zip_loop (hh : A.handled = none) (D : ZipApart z TI TO i1 i2 l1 l2) (Z : ZAp z TI TO i1 i2 l1 l2 S) (hl : xs.size = ys.size) (hn : xs.size ≤ sizeLine) (res : Value) (B : Nat) (hBz : z < B) (hBi : i1 < B) (hBj : i2 < B) (hBS : S < B) (hBO : TO < B) :
    ∀ (k i : Nat) (s : Shared) (Ts : List Addr) (c : Nat), xs.size - i = k → i ≤ xs.size → ZSt z TI TO i1 i2 l1 l2 xs ys S i s.heap → B ≤ s.heap.objs.size → (∀ T ∈ Ts, T < s.heap.objs.size) → Ts.length = i → Made B Ts xs ys s.heap →
    s.heap.get? S = some { cls := .type "list", dict := none, data := .seq (Ts.map Value.ref).toArray c, slots := #[] } →
    (∀ h' Ts' c', (∀ b o, b < B → b ≠ z → b ≠ TO → b ≠ i1 → b ≠ i2 → b ≠ S → s.heap.get? b = some o → h'.get? b = some o) → Ts'.length = xs.size → Made B Ts' xs ys h' →
      h'.get? S = some { cls := .type "list", dict := none, data := .seq (Ts'.map Value.ref).toArray c', slots := #[] } → R (.ok (.ret res)) { s with heap := h' }) →
    codeAny (model prog w) A (.builtin "list.extend.loop" ⟨[.ref S, .ref z, res], []⟩) R s := by
  intro k
  induction k with
  | zero =>
    intro i s Ts c hk hi hst hB hTs hTl hM hS hR
    have hin : i = xs.size := by omega
    subst hin
    refine codeAny_builtin F.entry_extend_loop ?_
    rw [Around.under_plainId F.plain_extend_loop _]
    show wpAny _ A.in1 (pyNext (.ref z) >>= _) _ _ s
    have hend : xs[xs.size]? = none ∨ ys[xs.size]? = none := .inl (Array.getElem?_eq_none (Nat.le_refl _))
    obtain ⟨hTI, h1, h2, hl1, hl2, hz⟩ := hst
    have ne : ∀ T ∈ Ts, T ≠ z ∧ T ≠ TO ∧ T ≠ i1 ∧ T ≠ i2 ∧ T ≠ S := fun T hT => by
      have := hM.1 T hT
      exact ⟨ne_ge hBz this, ne_ge hBO this, ne_ge hBi this, ne_ge hBj this, ne_ge hBS this⟩
    have memT : ∀ {j : Nat} {T : Addr}, Ts[j]? = some T → T ∈ Ts := fun e => List.mem_of_getElem? e
    rcases hz with ⟨hz, a, b, hTO⟩ | ⟨T, f, oT, hz, hT, r1, r2, r3, r4⟩
    · refine wpAny_bind (wpAny_pyNext_zip_end (A := A.in1) hh D hz hTI hTO h1 h2 hl1 hl2 hend fun h' hk => ?_)
      refine wpAny_pure (hR h' Ts c (fun b o _ b1 b2 b3 b4 _ e => hk b o b1 b2 b3 b4 e) hTl ⟨hM.1, hM.2.1, fun j T e => ?_⟩ (hk S _ Z.sz Z.sTO Z.s1 Z.s2 hS))
      obtain ⟨x, y, e1, e2, e3⟩ := hM.2.2 j T e
      obtain ⟨n1, n2, n3, n4, n5⟩ := ne T (memT e)
      exact ⟨x, y, e1, e2, hk T _ n1 n2 n3 n4 e3⟩
    · refine wpAny_bind (wpAny_pyNext_zip_end_held (A := A.in1) hh D hz hT hTI h1 h2 hl1 hl2 hend fun h' hk => ?_)
      refine wpAny_pure (hR h' Ts c (fun b o _ b1 b2 b3 b4 _ e => hk b o b1 b3 b4 e) hTl ⟨hM.1, hM.2.1, fun j T e => ?_⟩ (hk S _ Z.sz Z.s1 Z.s2 hS))
      obtain ⟨x, y, e1, e2, e3⟩ := hM.2.2 j T e
      obtain ⟨n1, n2, n3, n4, n5⟩ := ne T (memT e)
      exact ⟨x, y, e1, e2, hk T _ n1 n3 n4 e3⟩
  | succ k ih =>
    intro i s Ts c hk hi hst hB hTs hTl hM hS hR
    have hlt : i < xs.size := by omega
    have hlt2 : i < ys.size := by omega
    refine codeAny_builtin F.entry_extend_loop ?_
    rw [Around.under_plainId F.plain_extend_loop _]
    show wpAny _ A.in1 (pyNext (.ref z) >>= _) _ _ s
    have ex := Array.getElem?_eq_getElem hlt
    have ey := Array.getElem?_eq_getElem hlt2
    have ne : ∀ T ∈ Ts, T ≠ z ∧ T ≠ TO ∧ T ≠ i1 ∧ T ≠ i2 ∧ T ≠ S := fun T hT => by
      have := hM.1 T hT
      exact ⟨ne_ge hBz this, ne_ge hBO this, ne_ge hBi this, ne_ge hBj this, ne_ge hBS this⟩
    have memT : ∀ {j : Nat} {T : Addr}, Ts[j]? = some T → T ∈ Ts := fun e => List.mem_of_getElem? e
    -- what follows, whichever way the tuple came
    have go : ∀ h', ZSt z TI TO i1 i2 l1 l2 xs ys S (i + 1) h' → h'.objs.size = s.heap.objs.size + 1 → IsPair h' s.heap.objs.size xs[i] ys[i] → (∀ b o, b ≠ z → b ≠ TO → b ≠ i1 → b ≠ i2 → s.heap.get? b = some o → h'.get? b = some o) →
        wpAny (model prog w) A.in1 (updateSeq S (·.push (.ref s.heap.objs.size)) >>= fun _ => again (.builtin "list.extend.loop" ⟨[.ref S, .ref z, res], []⟩))
          (fun fin s' => match fin with | .done f => R (.ok f) s' | .again c' => c'.quiet = true ∧ codeAny (model prog w) A c' R s') (fun e s' => R (.error e) s') { s with heap := h' } := by
      intro h' st' hsz hp hkp
      have hS' := hkp S _ Z.sz Z.sTO Z.s1 Z.s2 hS
      have hsize : (Ts.map Value.ref).toArray.size = i := by simp [hTl]
      have eT : ((Ts ++ [s.heap.objs.size]).map Value.ref).toArray = (Ts.map Value.ref).toArray.push (.ref s.heap.objs.size) := by simp
      obtain ⟨c2, hS2⟩ : ∃ c2, (h'.update S (Obj.mapSeq (·.push (Value.ref s.heap.objs.size)))).get? S = some { cls := .type "list", dict := none, data := .seq ((Ts ++ [s.heap.objs.size]).map Value.ref).toArray c2, slots := #[] } := ⟨_, by
        rw [eT]
        exact Heap.get?_update_self _ hS' rfl⟩
      refine wpAny_bind ?_
      refine wpAny_updateSeq (s := { s with heap := h' }) hS' rfl (wpAny_pure ⟨plainId_quiet F.plain_extend_loop _, ih (i + 1) _ (Ts ++ [s.heap.objs.size]) c2 (by omega) hlt ?_ ?_ ?_ (by simp [hTl]) ?_ hS2 fun h'' Ts' c' q1 q2 q3 q4 => ?_⟩) (by rw [hsize]; omega) (by show ((Ts.map Value.ref).toArray.push _).size ≤ sizeLine + 1; rw [Array.size_push, hsize]; omega)
      · exact st'.frame Z fun b o hb e => (Heap.get?_update_other _ _ (Ne.symm hb)).trans e
      · show B ≤ (h'.update S _).objs.size
        rw [Heap.size_update, hsz]; omega
      · intro T hT
        show T < (h'.update S _).objs.size
        rw [Heap.size_update, hsz]
        rcases List.mem_append.mp hT with q | q
        · exact Nat.lt_succ_of_lt (hTs T q)
        · rw [List.mem_singleton.mp q]; exact Nat.lt_succ_self _
      · refine ⟨fun T hT => ?_, ?_, fun j T e => ?_⟩
        · rcases List.mem_append.mp hT with q | q
          · exact hM.1 T q
          · rw [List.mem_singleton.mp q]; exact hB
        · refine List.nodup_append.mpr ⟨hM.2.1, by simp, fun a ha b hb => ?_⟩
          rw [List.mem_singleton.mp hb]
          exact Nat.ne_of_lt (hTs a ha)
        · by_cases hj : j < Ts.length
          · rw [List.getElem?_append_left hj] at e
            obtain ⟨x, y, e1, e2, e3⟩ := hM.2.2 j T e
            obtain ⟨n1, n2, n3, n4, n5⟩ := ne T (memT e)
            exact ⟨x, y, e1, e2, (Heap.get?_update_other _ _ (Ne.symm n5)).trans (hkp T _ n1 n2 n3 n4 e3)⟩
          · have hj2 : j = Ts.length := by
              have := (List.getElem?_eq_some_iff.mp e).1
              simp at this
              omega
            subst hj2
            simp at e
            subst e
            rw [hTl]
            refine ⟨xs[i], ys[i], ex, ey, (Heap.get?_update_other _ _ (Nat.ne_of_lt (Nat.lt_of_lt_of_le hBS hB))).trans hp⟩
      · exact hR h'' Ts' c' (fun b o b0 b1 b2 b3 b4 b5 e => q1 b o b0 b1 b2 b3 b4 b5 ((Heap.get?_update_other _ _ (Ne.symm b5)).trans (hkp b o b1 b2 b3 b4 e))) q2 q3 q4
    obtain ⟨hTI, h1, h2, hl1, hl2, hz⟩ := hst
    have lt : ∀ {c o}, s.heap.get? c = some o → s.heap.objs.size ≠ c := fun e => Nat.ne_of_gt (Heap.lt_size e)
    have n1 : s.heap.objs.size ≠ i1 := ne_ge hBi hB
    have n2 : s.heap.objs.size ≠ i2 := ne_ge hBj hB
    have n3 : s.heap.objs.size ≠ z := ne_ge hBz hB
    have n4 : s.heap.objs.size ≠ S := ne_ge hBS hB
    rcases hz with ⟨hz, a, b, hTO⟩ | ⟨T, f, oT, hz, hT, r1, r2, r3, r4⟩
    · refine wpAny_bind (wpAny_pyNext_zip_item D hz hTI hTO h1 h2 hl1 hl2 ex ey fun h' a1 a2 a3 a4 a5 a6 hk => ?_)
      exact go h' ⟨hk _ _ D.TIz D.TITO D.TIi1 D.TIi2 hTI, a3, a4, hl1.at fun o e => hk _ o D.l1z D.l1TO D.l1i1 D.l1i2 e, hl2.at fun o e => hk _ o D.l2z D.l2TO D.l2i1 D.l2i2 e,
        .inr ⟨s.heap.objs.size, false, _, a1, a5, n3, n1, n2, n4⟩⟩ a6 a5 hk
    · refine wpAny_bind (wpAny_pyNext_zip_item_held D hz hT hTI h1 h2 hl1 hl2 ex ey fun h' a1 a3 a4 a5 a6 hk => ?_)
      exact go h' ⟨hk _ _ D.TIz D.TIi1 D.TIi2 hTI, a3, a4, hl1.at fun o e => hk _ o D.l1z D.l1i1 D.l1i2 e, hl2.at fun o e => hk _ o D.l2z D.l2i1 D.l2i2 e,
        .inr ⟨T, true, oT, a1, hk _ _ r1 r2 r3 hT, r1, r2, r3, r4⟩⟩ a6 a5 fun b o b1 _ b3 b4 e => hk b o b1 b3 b4 e
theorem zip_no_len : typeLookup (.type "zip") "__len__" = pure none := am_miss_of_fast (by decide +kernel)
theorem zip_no_hint : typeLookup (.type "zip") "__length_hint__" = pure none := am_miss_of_fast (by decide +kernel)
variable {s : Shared} {E : Value → Shared → Prop}
theorem zip_extend (hh : A.handled = none) (D : ZipApart z TI TO i1 i2 l1 l2) (Z : ZAp z TI TO i1 i2 l1 l2 S) (hl : xs.size = ys.size) (hn : xs.size ≤ sizeLine) (res : Value) (c₀ : Nat) (hz : IsZip s.heap z TI TO .none) (hst : ZSt z TI TO i1 i2 l1 l2 xs ys S 0 s.heap)
    (hS : s.heap.get? S = some { cls := .type "list", data := .seq #[] c₀ }) (hBz : z < s.heap.objs.size) (hBi : i1 < s.heap.objs.size) (hBj : i2 < s.heap.objs.size) (hBS : S < s.heap.objs.size) (hBO : TO < s.heap.objs.size)
    (hR : ∀ h' Ts' c', (∀ b o, b < s.heap.objs.size → b ≠ z → b ≠ TO → b ≠ i1 → b ≠ i2 → b ≠ S → s.heap.get? b = some o → h'.get? b = some o) → Ts'.length = xs.size → Made s.heap.objs.size Ts' xs ys h' →
      h'.get? S = some { cls := .type "list", dict := none, data := .seq (Ts'.map Value.ref).toArray c', slots := #[] } → R (.ok (.ret res)) { s with heap := h' }) :
    wpAny (model prog w) A.in1 (Builtin.List.listExtendWith (.ref S) (.ref z) res)
      (fun fin s' => match fin with | .done f => R (.ok f) s' | .again c' => c'.quiet = true ∧ codeAny (model prog w) A c' R s') (fun e s' => R (.error e) s') s := by
  have hSI : S ≠ z := Z.sz
  have hT : s.TypeIs (.ref z) "zip" := ⟨_, hz, rfl⟩
  unfold Builtin.List.listExtendWith
  refine wpAny_bind (wpAny_typeOf hT ?_)
  have h1 : Builtin.List.listSameRef (.ref S) (.ref z) = false := by simp [Builtin.List.listSameRef, hSI]
  have h2 : (Value.type "zip" == Value.type "list") = false := by decide
  have h3 : (Value.type "zip" == Value.type "tuple") = false := by decide
  simp only [h1, h2, h3, Bool.or_false, Bool.false_eq_true, if_false]
  refine wpAny_bind (wpAny_pyIter_zip hz ?_)
  refine wpAny_bind (wpAny_holding ?_)
  unfold Builtin.List.listLengthHint
  refine wpAny_bind (wpAny_specialOf hT zip_no_len ?_)
  show wpAny _ A.in1 (specialOf (Value.ref z) (Str.ofString "__length_hint__") >>= _) _ _ _
  refine wpAny_bind (wpAny_specialOf hT zip_no_hint ?_)
  refine wpAny_pure ?_
  show wpAny _ A.in1 (rule "list.extend.makes-room" >>= fun _ => Builtin.List.listTouch (.ref S) >>= fun _ =>
    again (.builtin "list.extend.loop" ⟨[.ref S, .ref z, res], []⟩)) _ _ _
  refine wpAny_bind (wpAny_rule ?_)
  refine wpAny_bind ?_
  show wpAny _ A.in1 (updateSeq S (·.push .none) >>= fun _ => updateSeq S (·.pop)) _ _ _
  refine wpAny_bind (wpAny_updateSeq hS rfl ?_)
  have hS₂ := Heap.get?_update_self (Obj.mapSeq (·.push Value.none)) hS rfl
  refine wpAny_updateSeq (hz := by seq_fits) hS₂ rfl ?_
  have hS₃ := Heap.get?_update_self (Obj.mapSeq (·.pop)) hS₂ rfl
  have oth : ∀ b o, b ≠ S → s.heap.get? b = some o → ((s.heap.update S (Obj.mapSeq (·.push Value.none))).update S (Obj.mapSeq (·.pop))).get? b = some o :=
    fun b o hb e => (Heap.get?_update_other _ _ (Ne.symm hb)).trans ((Heap.get?_update_other _ _ (Ne.symm hb)).trans e)
  have hsz : ((s.heap.update S (Obj.mapSeq (·.push Value.none))).update S (Obj.mapSeq (·.pop))).objs.size = s.heap.objs.size := by rw [Heap.size_update, Heap.size_update]
  refine wpAny_pure ⟨plainId_quiet F.plain_extend_loop _, zip_loop hh D Z hl hn res s.heap.objs.size hBz hBi hBj hBS hBO xs.size 0 _ [] _ rfl (Nat.zero_le _) (hst.frame Z fun b o hb e => oth b o hb e)
    (Nat.le_of_eq hsz.symm) (fun T hT => nomatch hT) rfl ⟨(fun T hT => nomatch hT), List.nodup_nil, fun j T e => by simp at e⟩ hS₃ fun h' Ts' c' q1 q2 q3 q4 => ?_⟩
  exact hR h' Ts' c' (fun b o b0 b1 b2 b3 b4 b5 e => q1 b o b0 b1 b2 b3 b4 b5 (oth b o b5 e)) q2 q3 q4
theorem zip_list_init (hh : A.handled = none) (D : ZipApart z TI TO i1 i2 l1 l2) (Z : ZAp z TI TO i1 i2 l1 l2 S) (hl : xs.size = ys.size) (hn : xs.size ≤ sizeLine) (hz : IsZip s.heap z TI TO .none) (hst : ZSt z TI TO i1 i2 l1 l2 xs ys S 0 s.heap)
    (hS : s.heap.get? S = some { cls := .type "list", data := .seq #[] }) (hBz : z < s.heap.objs.size) (hBi : i1 < s.heap.objs.size) (hBj : i2 < s.heap.objs.size) (hBS : S < s.heap.objs.size) (hBO : TO < s.heap.objs.size)
    (hR : ∀ h' Ts' c', (∀ b o, b < s.heap.objs.size → b ≠ z → b ≠ TO → b ≠ i1 → b ≠ i2 → b ≠ S → s.heap.get? b = some o → h'.get? b = some o) → Ts'.length = xs.size → Made s.heap.objs.size Ts' xs ys h' →
      h'.get? S = some { cls := .type "list", dict := none, data := .seq (Ts'.map Value.ref).toArray c', slots := #[] } → R (.ok (.ret .none)) { s with heap := h' }) :
    wpAny (model prog w) A.in1 (Builtin.«list.__init__» ⟨[.ref S, .ref z], []⟩)
      (fun fin s' => match fin with | .done f => R (.ok f) s' | .again c' => c'.quiet = true ∧ codeAny (model prog w) A c' R s') (fun e s' => R (.error e) s') s := by
  show wpAny _ A.in1 (do let old ← Builtin.List.listItems (.ref S); Builtin.List.listUpdate (.ref S) (fun _ => #[]); letGo old.toList.reverse; Builtin.List.listExtendWith (.ref S) (.ref z) .none) _ _ s
  refine wpAny_bind ?_
  unfold Builtin.List.listItems
  refine wpAny_bind (wpAny_seqItems hS rfl (wpAny_pure ?_))
  show wpAny _ A.in1 (updateSeq S (fun _ => #[]) >>= fun _ => letGo (#[] : Array Value).toList.reverse >>= fun _ => Builtin.List.listExtendWith (.ref S) (.ref z) .none) _ _ s
  refine wpAny_bind (wpAny_updateSeq hS rfl ?_)
  have hS₂ := Heap.get?_update_self (Obj.mapSeq (fun _ => (#[] : Array Value))) hS rfl
  have oth : ∀ b o, b ≠ S → s.heap.get? b = some o → (s.heap.update S (Obj.mapSeq (fun _ => (#[] : Array Value)))).get? b = some o :=
    fun b o hb e => (Heap.get?_update_other _ _ (Ne.symm hb)).trans e
  have hsz : (s.heap.update S (Obj.mapSeq (fun _ => (#[] : Array Value)))).objs.size = s.heap.objs.size := Heap.size_update ..
  refine wpAny_bind (wpAny_letGo ?_)
  refine zip_extend (s := { s with heap := s.heap.update S (Obj.mapSeq (fun _ => (#[] : Array Value))) }) hh D Z hl hn .none _ (oth _ _ Z.sz.symm hz) (hst.frame Z fun b o hb e => oth b o hb e) hS₂ (by rw [hsz]; exact hBz) (by rw [hsz]; exact hBi) (by rw [hsz]; exact hBj) (by rw [hsz]; exact hBS) (by rw [hsz]; exact hBO) fun h' Ts' c' q1 q2 q3 q4 => ?_
  exact hR h' Ts' c' (fun b o b0 b1 b2 b3 b4 b5 e => q1 b o (by rw [hsz]; exact b0) b1 b2 b3 b4 b5 (oth b o b5 e)) q2 (by rw [hsz] at q3; exact q3) q4
theorem call_list_zip {Q : Value → Shared → Prop} (hh : A.handled = none) (D : ZipApart z TI TO i1 i2 l1 l2) (hl : xs.size = ys.size) (hn : xs.size ≤ sizeLine) (hz : IsZip s.heap z TI TO .none) (hTI : IsPair s.heap TI (.ref i1) (.ref i2)) (hTO : IsPair s.heap TO .none .none)
    (h1 : s.heap.IsListIter i1 l1 0) (h2 : s.heap.IsListIter i2 l2 0) (hl1 : s.heap.IsList l1 xs) (hl2 : s.heap.IsList l2 ys)
    (hQ : ∀ h' Ts' c', (∀ b o, b ≠ z → b ≠ TO → b ≠ i1 → b ≠ i2 → s.heap.get? b = some o → h'.get? b = some o) → Ts'.length = xs.size → Made (s.heap.objs.size + 1) Ts' xs ys h' →
      h'.get? s.heap.objs.size = some { cls := .type "list", dict := none, data := .seq (Ts'.map Value.ref).toArray c', slots := #[] } → Q (.ref s.heap.objs.size) { s with heap := h' }) :
    wpAny (model prog w) A (call (.type "list") [.ref z]) Q E s := by
  refine callType_codes (Q₁ := fun obj s₁ => obj = .ref s.heap.objs.size ∧ s₁ = { s with heap := s.heap.push { cls := .type "list", data := .seq #[] } }) F.called_list (F.typeCall_list_1 _) F.entry_list_init
    (code_list_new _ ⟨rfl, rfl⟩) fun obj s₁ h₁ => ?_
  obtain ⟨rfl, rfl⟩ := h₁
  have hS : (s.heap.push { cls := .type "list", data := .seq #[] }).get? s.heap.objs.size = some { cls := .type "list", data := .seq #[] } := Heap.get?_push_size _ rfl
  have lz := Heap.lt_size hz
  have lTI := Heap.lt_size hTI
  have lTO := Heap.lt_size hTO
  have li1 : i1 < s.heap.objs.size := by obtain ⟨o, e, _⟩ := h1; exact Heap.lt_size e
  have li2 : i2 < s.heap.objs.size := by obtain ⟨o, e, _⟩ := h2; exact Heap.lt_size e
  have ll1 : l1 < s.heap.objs.size := by obtain ⟨o, e, _⟩ := hl1; exact Heap.lt_size e
  have ll2 : l2 < s.heap.objs.size := by obtain ⟨o, e, _⟩ := hl2; exact Heap.lt_size e
  have Z : ZAp z TI TO i1 i2 l1 l2 s.heap.objs.size := ⟨Nat.ne_of_gt lz, Nat.ne_of_gt lTI, Nat.ne_of_gt lTO, Nat.ne_of_gt li1, Nat.ne_of_gt li2, Nat.ne_of_gt ll1, Nat.ne_of_gt ll2⟩
  have kp : ∀ b o, s.heap.get? b = some o → (s.heap.push { cls := .type "list", data := .seq #[] }).get? b = some o := fun b o e => Heap.get?_push_of_some _ e
  have hsz : (s.heap.push { cls := .type "list", data := .seq #[] }).objs.size = s.heap.objs.size + 1 := Heap.size_push ..
  refine ⟨⟨_, hS, rfl⟩, F.args_list_init_2 _ _, zip_list_init (A := A.in1) (s := { s with heap := s.heap.push { cls := .type "list", data := .seq #[] } }) hh D Z hl hn (kp _ _ hz)
    ⟨kp _ _ hTI, h1.at fun o e => kp _ _ e, h2.at fun o e => kp _ _ e, hl1.at fun o e => kp _ _ e, hl2.at fun o e => kp _ _ e, .inl ⟨kp _ _ hz, _, _, kp _ _ hTO⟩⟩ hS (by rw [hsz]; exact Nat.lt_succ_of_lt lz) (by rw [hsz]; exact Nat.lt_succ_of_lt li1) (by rw [hsz]; exact Nat.lt_succ_of_lt li2) (by rw [hsz]; exact Nat.lt_succ_self _) (by rw [hsz]; exact Nat.lt_succ_of_lt lTO) fun h' Ts' c' q1 q2 q3 q4 => ?_⟩
  refine ⟨rfl, hQ h' Ts' c' (fun b o b1 b2 b3 b4 e => q1 b o (by rw [hsz]; exact Nat.lt_succ_of_lt (Heap.lt_size e)) b1 b2 b3 b4 (Nat.ne_of_lt (Heap.lt_size e)) (kp b o e)) q2 (by rw [hsz] at q3; exact q3) q4⟩
end
section
variable {X : Cx}
noncomputable def layT (H : Hp) : List Addr → List (V × V) → Hp
  | T :: Ts, p :: ps => upd (layT H Ts ps) T (.tup [p.1, p.2])
  | _, _ => H
noncomputable def tListZip (K : Fg) (t : TA) : TE := fun σ H Q => t σ H fun vs H1 => ∃ a b xs ys, vs = [.ref a, .ref b] ∧ SqL K H1 a xs ∧ SqL K H1 b ys ∧ xs.length = ys.length ∧
  ∀ p Ts, H1 p = none → (∀ T ∈ Ts, H1 T = none ∧ T ≠ p) → Ts.Nodup → Ts.length = xs.length → Q (.ref p) (upd (layT H1 Ts (xs.zip ys)) p (.lst (Ts.map .ref)))
theorem layT_old {H : Hp} : ∀ {Ts : List Addr} {ps : List (V × V)} {b : Addr}, b ∉ Ts → layT H Ts ps b = H b
  | [], _, _, _ => by simp [layT]
  | T :: Ts, [], _, _ => by simp [layT]
  | T :: Ts, p :: ps, b, h => by
    simp only [layT]
    rw [upd_ne (fun e => h (by rw [e]; exact List.mem_cons_self))]
    exact layT_old fun z => h (List.mem_cons_of_mem _ z)
theorem layT_get {H : Hp} : ∀ {Ts : List Addr} {ps : List (V × V)} {j : Nat} {T : Addr} {p : V × V}, Ts.Nodup → Ts[j]? = some T → ps[j]? = some p → layT H Ts ps T = some (.tup [p.1, p.2])
  | [], _, _, _, _, _, e, _ => by simp at e
  | T :: Ts, [], _, _, _, _, _, e => by simp at e
  | T :: Ts, p :: ps, 0, _, _, _, e1, e2 => by
    simp at e1 e2
    subst e1; subst e2
    simp only [layT, upd_same]
  | T :: Ts, p :: ps, j + 1, T', p', nd, e1, e2 => by
    have nd' := List.nodup_cons.mp nd
    have m : T' ∈ Ts := List.mem_of_getElem? (show Ts[j]? = some T' by simpa using e1)
    simp only [layT]
    rw [upd_ne (fun e => nd'.1 (by rw [← e]; exact m))]
    exact layT_get nd'.2 (by simpa using e1) (by simpa using e2)
theorem vals_get : ∀ {vs : List V} {us : List Value} {j : Nat} {u : Value}, Vals vs us → us[j]? = some u → ∃ v, vs[j]? = some v ∧ RelV v u
  | _, _, _, _, .nil, e => by simp at e
  | _, _, 0, _, .cons r _, e => by simp at e; subst e; exact ⟨_, rfl, r⟩
  | _, _, j + 1, _, .cons _ t, e => by
    obtain ⟨v, h1, h2⟩ := vals_get (j := j) t (by simpa using e)
    exact ⟨v, by simpa using h1, h2⟩
theorem vals_refs : ∀ Ts : List Addr, Vals (Ts.map V.ref) (Ts.map Value.ref)
  | [] => .nil
  | T :: Ts => .cons rfl (vals_refs Ts)
theorem pe_listzip {e e2 : Expr} {ta : TA} {p p' pos pos' : Pos} (hcalm : X.calm = true) (hg : Gl X "zip") (hm : X.mg "zip" = none) (hg' : Gl X "list") (hm' : X.mg "list" = none) (ha : PA X [e, e2] ta)
    (hs : starEach [e, e2] X.env = (false, eval e X.env) :: starEach [e2] X.env := by rfl) (hpl : (backTo pos (starEach [e2] X.env)).any (·.1) = false := by rfl)
    (hs' : starEach [Expr.Call (.Name "zip" p) [e, e2] [] pos] X.env = (false, eval (.Call (.Name "zip" p) [e, e2] [] pos) X.env) :: starEach [] X.env := by rfl) (hpl' : (backTo pos' (starEach [] X.env)).any (·.1) = false := by rfl) :
    PE X (.Call (.Name "list" p') [.Call (.Name "zip" p) [e, e2] [] pos] [] pos') (tListZip X.K ta) := by
  refine ⟨fun pins s σ H Q I h => ?_⟩
  refine wpAny_Call_Name_kw (ld_blt I hg' hm' PyProof.Rows.boot_list ?_ (by decide) (by decide))
  refine PyProof.Rows.callWith_type1 ?_ hs' hpl'
  rw [hs']
  show wpAny _ _ (spliced ((false, eval (.Call (.Name "zip" p) [e, e2] [] pos) X.env) :: backTo pos' (starEach [] X.env))) _ _ s
  refine Calls.spliced_cons ?_
  refine wpAny_Call_Name_kw (ld_blt I hg hm PyProof.Rows.boot_zip ?_ (by decide) (by decide))
  refine PyProof.Rows.callWith_type1 (thn (ha.run pos pins s σ H _ I h) fun us s1 ⟨vs, H1, I1, r1, q1⟩ => ?_) hs hpl
  obtain ⟨a, b, xs, ys, ex, hqx, hqy, hlen, q⟩ := q1
  subst ex
  cases r1 with
  | cons r rr =>
  cases rr with
  | cons r' rr =>
  cases rr
  cases r
  cases r'
  obtain ⟨its, rv, p1, hz1⟩ := I1.list hqx
  obtain ⟨its2, rv2, p2, hz2⟩ := I1.list hqy
  refine call_zip_2 p1.isList p2.isList fun h' hz hTI hTO h1 h2 hsz hk => ?_
  refine Calls.spliced_nil ?_
  show wpAny _ _ (call (.type "list") [.ref (s1.heap.objs.size + 4)]) _ _ _
  have hlen2 : its.length = its2.length := by rw [← rv.length, ← rv2.length]; exact hlen
  refine call_list_zip (s := { s1 with heap := h' }) (xs := its.toArray) (ys := its2.toArray) (I1.ok.hd hcalm) (PySem.W.ktu_apart s1.heap.objs.size a b p1.lt p2.lt) (by simpa using hlen2) (by rw [List.size_toArray, ← rv.length]; exact hz1) hz hTI hTO h1 h2 (p1.isList.at fun o e => hk _ _ e) (p2.isList.at fun o e => hk _ _ e) fun h2' Ts c' kp hTl hM hS => ?_
  have hsz' : h'.objs.size = s1.heap.objs.size + 5 := hsz
  have kp' : ∀ b o, s1.heap.get? b = some o → h2'.get? b = some o := fun b o e => by
    have h0 := Heap.lt_size e
    exact kp b o (ne_le h0 (Nat.le_add_right _ 4)) (ne_le h0 (Nat.le_add_right _ 3)) (Nat.ne_of_lt h0) (ne_le h0 (Nat.le_add_right _ 1)) (hk b o e)
  have fresh : ∀ b, s1.heap.objs.size ≤ b → H1 b = none := fun b hb => I1.hok.fresh hb
  have geT : ∀ T ∈ Ts, s1.heap.objs.size + 6 ≤ T := fun T hT => by have := hM.1 T hT; rw [show ({ s1 with heap := h' } : Shared).heap.objs.size = s1.heap.objs.size + 5 from hsz] at this; exact this
  have hp1 : s1.heap.objs.size ≤ h'.objs.size := by omega
  have hp0 : H1 h'.objs.size = none := fresh _ hp1
  have nT : h'.objs.size ∉ Ts := fun z => by have := geT _ z; rw [hsz'] at this; exact absurd this (Nat.not_succ_le_self _)
  have ltH : ∀ {b u}, H1 b = some u → b < s1.heap.objs.size := fun {b u} e => by
    rcases Nat.lt_or_ge b s1.heap.objs.size with hb | hb
    · exact hb
    · rw [fresh b hb] at e; cases e
  have lenT : Ts.length = xs.length := by rw [hTl, List.size_toArray, rv.length]
  have old : ∀ b, b < s1.heap.objs.size → upd (layT H1 Ts (xs.zip ys)) h'.objs.size (.lst (Ts.map .ref)) b = H1 b := fun b hb => by
    rw [upd_ne (ne_le hb hp1)]
    exact layT_old fun z => absurd (Nat.lt_of_lt_of_le hb (Nat.le_trans (Nat.le_add_right _ 6) (geT b z))) (Nat.lt_irrefl _)
  have I2 : Inv X pins σ (upd (layT H1 Ts (xs.zip ys)) h'.objs.size (.lst (Ts.map .ref))) { s1 with heap := h2', toks := s1.toks } := by
    refine I1.un ⟨fun b o e _ _ _ => kp' b o e, fun b o e _ _ _ => ⟨o.slots, kp' b o e⟩, fun b o e n _ => ?_, fun b o e _ => ⟨o, kp' b o e⟩, fun b xs e => ?_, fun b o u e => ?_, fun b ps e => ⟨#[], ?_⟩⟩ fun b u e => ?_
    · rw [old b (Heap.lt_size e)]; exact n
    · rw [old b (ltH e)]; exact e
    · rw [old b (ltH e)]; exact e
    · rw [old b (ltH e), e]; simp
    · by_cases hb : b = h'.objs.size
      · subst hb
        rw [upd_same] at e
        cases e
        exact ⟨by rw [List.length_map, lenT]; exact hz1, _, c', vals_refs Ts, hS⟩
      · rw [upd_ne hb] at e
        by_cases hT : b ∈ Ts
        · obtain ⟨j, hj, ej⟩ := List.getElem_of_mem hT
          have ej' : Ts[j]? = some b := by rw [List.getElem?_eq_getElem hj, ej]
          obtain ⟨x, y, e1, e2, e3⟩ := hM.2.2 j b ej'
          obtain ⟨vx, g1, r1⟩ := vals_get rv (show its[j]? = some x by simpa using e1)
          obtain ⟨vy, g2, r2⟩ := vals_get rv2 (show its2[j]? = some y by simpa using e2)
          have gz : (xs.zip ys)[j]? = some (vx, vy) := by
            rw [List.getElem?_zip_eq_some]
            exact ⟨g1, g2⟩
          rw [layT_get hM.2.1 ej' gz] at e
          cases e
          exact ⟨by show 2 ≤ sizeLine; rw [sizeLine_eq]; omega, [x, y], .cons r1 (.cons r2 .nil), ⟨_, e3, rfl, _, rfl⟩⟩
        · rw [layT_old hT] at e
          have hb' := ltH e
          exact (I1.hok b u e).stay (fun c v _ w => kp' c v w) (fun c w => by rw [old c (ltH w)]; exact w) fun c xs w => by rw [old c (ltH w)]; exact w
  exact ⟨.ref h'.objs.size, _, I2, rfl, q _ Ts hp0 (fun T hT => ⟨fresh T (Nat.le_trans (Nat.le_add_right _ 6) (geT T hT)), fun z => nT (z ▸ hT)⟩) hM.2.1 lenT⟩
end
end VL

end

section
set_option Elab.async false
set_option linter.all false
set_option maxRecDepth 100000
namespace VL
open PySem PySem.Spec PyProof.Rows L2
section
variable {X : Cx} {T T1 T2 T3 T4 T5 : List Nat} {W : WV} {K : Fg}
theorem vg_tupK {es : List Expr} {k n : Nat} {vs : List Nat} {gs : TGs} {Gs : MGs} {tpos : Pos} (hc : X.calm = true) (h : VGs X es gs vs Gs) (hK : X.K = K := by rfl) (hn : (assignEach es X.env).length = n := by rfl) (hst : (assignEach es X.env).findIdx? (·.1) = none := by rfl) : VG X (.Tuple es k tpos) (gTup K n gs) vs (gT n Gs) :=
  hK ▸ vg_tup hc h hn hst
noncomputable def rRepR : R2 := fun x y H Q => ∃ l k xs, x = .ref l ∧ y = .int k ∧ Rd H l (.lst xs) ∧ -(2 ^ 63) ≤ k ∧ k < 2 ^ 63 ∧ xs.length * k.toNat ≤ sizeLine ∧
  ∀ p, H p = none → Q (.ref p) (upd H p (.lst (List.replicate k.toNat xs).flatten))
theorem op_repR : OpR X (binaryOp .Mult) rRepR := by
  intro pins s σ H x y v u Q I rx ry h
  obtain ⟨l, k, xs, rfl, rfl, hH, h1, h2, hz, q⟩ := h
  cases rx
  obtain ⟨t, rfl⟩ := ry
  obtain ⟨z, its, n, r, hl, e⟩ := lstR I hH
  have hlen : its.toArray.size * k.toNat ≤ sizeLine := by rw [List.size_toArray, ← hl]; exact hz
  have hcap : ¬ its.toArray.size * k.toNat > (2 ^ 63 - 1) / 8 := by
    have : (sizeLine : Nat) ≤ (2 ^ 63 - 1) / 8 := by decide
    omega
  have hfit : ¬ (!Builtin.List.listFitsIndex k) = true := by
    rw [fitsIndex_both h1 h2]
    exact Bool.false_ne_true
  have hlong : ¬ Builtin.List.listTooLong (its.toArray.size * k.toNat) = true := by
    rw [notLongL hlen]
    exact Bool.false_ne_true
  have hnew : List.foldl (fun x1 x2 => x1 ++ x2) #[] (List.replicate (if its.toArray.isEmpty = true then 0 else k.toNat) its.toArray) = (List.replicate k.toNat its).flatten.toArray := by
    have f0 : ∀ m : Nat, List.foldl (fun x1 x2 => x1 ++ x2) #[] (List.replicate m its.toArray) = (List.replicate m its).flatten.toArray := fun m => by
      have := foldl_rep its m []
      rw [List.nil_append] at this
      exact this
    rw [f0]
    cases its with
    | nil => simp
    | cons a r' => rw [if_neg (by simp)]
  refine wpAny_binaryOp_repeat_ref (T := "list") (U := "int") (by decide) ⟨_, e, rfl⟩ (fun s' => typeIs_int s' k t) noFill_list_mul F.fills_int_mul F.slot_int_rmul repeat_list F.slot_int_index.lookup
    (call_meets F.slot_int_rmul (typeIs_int s k t) F.entry_int_rmul (F.args_int_rmul_2 _ _) (int___rmul___int_list k t l its.toArray n)
      ⟨e, rfl, ⟨_, e, rfl⟩, call_meets F.slot_list_mul ⟨_, e, rfl⟩ F.entry_list_mul (F.args_list_mul_2 _ _) (AutoListH.list___mul___list_int_3 l its.toArray n k t hfit hcap hlong) ⟨e, ?_⟩⟩)
  rw [hnew]
  exact ⟨.ref _, _, I.lnew (t' := s.toks) (r.rep k.toNat) (by rw [PyProof.Rows.lm_len_rep_flat, Nat.mul_comm]; exact hz), rfl, q _ I.fresh⟩
noncomputable def repL (ds : List PyData) (k : Int) : List PyData := (List.replicate k.toNat ds).flatten
noncomputable def repOk (ds : List PyData) (k : Int) : Bool := decide (-(2 ^ 63) ≤ k ∧ k < 2 ^ 63) && small (ds.length * k.toNat)
noncomputable def repD : PyData → PyData → Option PyData
  | .list ds, .int k => if repOk ds k then some (.list (repL ds k)) else none
  | _, _ => none
theorem ok_repD : OpOk K rRepR repD := by
  intro F H x y dx dy z Q s hx hy e k
  unfold repD at e
  split at e
  · rename_i ds n
    split at e
    · rename_i hz
      cases e
      unfold repOk at hz
      rw [Bool.and_eq_true] at hz
      have hk := of_decide_eq_true hz.1
      obtain ⟨a, vs, rfl, h1, h2⟩ := hx.list s
      cases hy.int
      refine ⟨a, n, vs, rfl, rfl, h1, hk.1, hk.2, by rw [dqAll_len h2]; exact small_iff.mp hz.2, fun p np => ?_⟩
      exact k _ _ _ (.new _ s np) (.lst (.inl upd_same) (dqAll_mono (same_upd (s.free np)) _ _ (rep_all h2 n.toNat)))
    · cases e
  · cases e
variable {fa fb : M Rv} {a b : Expr} {pos : Pos}
theorem ve_rep (ha : VE X T1 W a fa) (hb : VE X T2 W b fb) : VE X (T1 ++ T2) W (.BinOp a .Mult b pos) (cBin repD fa fb) := ve_bin op_repR ok_repD ha hb
noncomputable def rep1 (x y : Rv) : M Tr := fun ρ => match derS ρ x, derS ρ y with
  | some (.list ds), some (.int k) => if repOk ds k then some (.ok (.lst ((repL ds k).map .dat)) ρ) else none
  | _, _ => none
noncomputable def nRep (fa fb : M Rv) : M Tr := bnd fa fun x => bnd fb fun y => rep1 x y
theorem vn_rep (ha : VE X T1 W a fa) (hb : VE X T2 W b fb) : VN X (T1 ++ T2) W (.BinOp a .Mult b pos) (nRep fa fb) :=
  pe_imp (pe_op op_repR ha hb) fun σ H Q ⟨F, ρ, fp, o, E, e, P⟩ => by
    refine tv_bnd E e P (fun i hi => List.mem_append_left _ hi) fun x ρ1 v H1 F1 fp1 s1 r1 e1 P1 => ?_
    refine tv_bnd s1.env e1 P1 (fun i hi => List.mem_append_right _ hi) fun y ρ2 w H2 F2 fp2 s2 r2 e2 P2 => ?_
    unfold rep1 at e2
    split at e2
    · rename_i ds k hd hk
      split at e2
      · rename_i hz
        cases ok_inj e2
        unfold repOk at hz
        rw [Bool.and_eq_true] at hz
        have hk' := of_decide_eq_true hz.1
        obtain ⟨a, vs, rfl, h1, h2⟩ := (derS_ok s2.env (RvOk.step s2 r1) hd).list s2.env.sub
        cases (derS_ok s2.env r2 hk).int
        refine ⟨a, k, vs, rfl, rfl, h1, hk'.1, hk'.2, by rw [dqAll_len h2]; exact small_iff.mp hz.2, fun p np => ?_⟩
        have z := new_lst (T := T1 ++ T2) s2.env np (rep_all h2 k.toNat)
        exact P2 _ _ _ fp2 z.1 ⟨_, z.2⟩
      · cases e2
    · cases e2
theorem mut_dat {K : Fg} {T : List Nat} {F0 H0 F H : Hp} {σ : Sg} {ρ0 ρ : Rho} {fp0 fp : FP} {r : Nat × List Nat} {v : V} {ts : List Tr} {ds : List PyData} (s1 : EStep K T F0 H0 σ ρ0 fp0 F H ρ fp) (hm : modeOk ρ r.1 = true)
    (pl : ∃ u m t t', sg σ r.1 = some u ∧ ρ[r.1]? = some (Sl.own m t) ∧ t.at r.2 = some t' ∧ pathV H u r.2 = some v) (ht : treeAt ρ r = some (.lst ts)) (hf : flat ts = some ds) :
    ∃ a vs, v = .ref a ∧ H a = some (.lst vs) ∧ DqAll K F vs ds ∧ ∀ vs' ds', DqAll K F vs' ds' → ∃ fp', EStep K (T ++ [r.1]) F0 H0 σ ρ0 fp0 F (upd H a (.lst vs')) (putAt ρ r (.lst (ds'.map .dat))) fp' := by
  obtain ⟨B, qB, hB⟩ := place_get s1.env pl ht
  obtain ⟨u, m, t, t', h1, h2, h3, h4⟩ := pl
  have ht' : t.at r.2 = some (.lst ts) := by
    unfold treeAt at ht
    rw [h2] at ht
    exact ht
  have ets := flat_ok hf
  subst ets
  cases qB with
  | @lst a vs _ B0 e1 e2 e3 =>
    obtain ⟨eB, hd⟩ := trs_dat' e3
    refine ⟨a, vs, rfl, e1, hd, fun vs' ds' hd' => ?_⟩
    obtain ⟨fp', st, _⟩ := mut_step (A := []) (o := .lst vs') (t'' := .lst (ds'.map .dat)) s1 h2 (mode_of hm h2) h1 ht' h4 (fun b hb => nomatch hb) List.nodup_nil (fun b hb => nomatch hb) fun B1 q1 nB1 dj => by
      cases q1 with
      | @lst a _ _ B2 f1 f2 f3 =>
        exact ⟨List.mem_cons_self, [a], .lst upd_same f2 (trs_dat hd'), by simp, fun b hb => .inl (by rw [List.mem_singleton.mp hb]; exact List.mem_cons_self)⟩
    refine ⟨fp', ?_⟩
    have e : putAt ρ r (.lst (ds'.map .dat)) = ρ.set r.1 (.own m (t.put r.2 (.lst (ds'.map .dat)))) := by
      unfold putAt
      rw [h2]
    rw [e]
    exact st
variable {fp1 : M (Nat × List Nat)} {fs : M (List Rv)} {o i e : Expr} {apos cpos : Pos}
noncomputable def rGetL : V → V → Hp → VK → Prop := fun x y H Q => ∃ p xs i v, x = .ref p ∧ y = .int i ∧ H p = some (.lst xs) ∧ 0 ≤ i ∧ xs[i.toNat]? = some v ∧ Q v H
theorem get_list : PGet X rGetL := by
  intro pins s σ H x y v u Q I rx ry h
  obtain ⟨p, xs, i, z, rfl, rfl, hq, h0, he, q⟩ := h
  cases rx
  obtain ⟨t, rfl⟩ := ry
  obtain ⟨its, r, pl, hz⟩ := I.list (.inl (.inl hq) : SqL X.K H p xs)
  obtain ⟨w, ew, rw'⟩ := r.get he
  have hl := (List.getElem?_eq_some_iff.mp he).1
  have hn := line63
  exact wpAny_getItem_list pl.isList h0 (by omega) (by simpa using ew) ⟨z, H, I, rw', q⟩
noncomputable def aug2 (T2 : List Nat) (f : Int → Int → Int) (r : Nat × List Nat) (n : Int) (ds : List PyData) (j : Int) (y : Rv) : MS := fun ρ => if T2.contains r.1 || !modeOk ρ r.1 then none else match y with
  | .d (.int k) => some (.nx (putAt ρ r (.lst ((ds.set n.toNat (.int (f j k))).map .dat))))
  | _ => none
noncomputable def aug1 (T2 T3 : List Nat) (f : Int → Int → Int) (r : Nat × List Nat) (fe : M Rv) (y : Rv) : MS := fun ρ => if T2.contains r.1 then none else match y, treeAt ρ r with
  | .d (.int n), some (.lst ts) => (match flat ts with
    | some ds => if 0 ≤ n then (match ds[n.toNat]? with
      | some (.int j) => sE fe (aug2 T3 f r n ds j) ρ
      | _ => none) else none
    | none => none)
  | _, _ => none
noncomputable def sAugIx (T2 T3 : List Nat) (f : Int → Int → Int) (fo : M (Nat × List Nat)) (fi fe : M Rv) : MS := sE fo fun r => sE fi (aug1 T2 T3 f r fe)
variable {tpos : Pos} {fi fe : M Rv}
theorem dqAll_set {F : Hp} {v : V} {d : PyData} (h : Dq K F v d) : ∀ {vs : List V} {ds : List PyData} {j : Nat}, DqAll K F vs ds → DqAll K F (vs.set j v) (ds.set j d)
  | _, _, _, .nil => .nil
  | _, _, 0, .cons _ t => .cons h t
  | _, _, j + 1, .cons r t => .cons r (dqAll_set h t)
theorem vs_augIx {op : Operator} {f : Int → Int → Int} (ho : VP X T1 W o fp1) (hi : VE X T2 W i fi) (he : VE X T3 W e fe) (hp : PIp X op (ipI f)) (hT : T2 = T4 := by rfl) (hT' : T3 = T5 := by rfl)
    (ha : ∀ ov iv new, augStore i ov iv new = (do holding [new, ov, iv] (setItem ov iv new); release [new, ov, iv] []; pure .next) := by intros; rfl) :
    VS X W (.AugAssign (.Subscript o i tpos) op e pos) (sAugIx T4 T5 f fp1 fi fe) :=
  ps_imp (ps_augS ho hi get_list he hp set_list ha) fun D σ H ⟨F, ρ, fp, ou, E, q, P⟩ => by
    subst hT; subst hT'
    refine tv_st E q P fun r ρ1 v H1 F1 fp1 s1 r1 e1 P1 => ?_
    refine tv_st (T := T2) s1.env e1 P1 fun y ρ2 w H2 F2 fp2 s2 r2 e2 P2 => ?_
    unfold aug1 at e2
    split at e2
    · cases e2
    · rename_i hc
      have pl := place_step s1.env s2 (not_in hc) r1
      split at e2
      · rename_i n ts hts
        split at e2
        · rename_i ds hfl
          split at e2
          · rename_i h0
            split at e2
            · rename_i j hj
              cases r2
              obtain ⟨B, qB, hB⟩ := place_get s2.env pl hts
              have ets := flat_ok hfl
              subst ets
              cases qB with
              | @lst a vs _ B0 f1 f2 f3 =>
                obtain ⟨_, hd⟩ := trs_dat' f3
                obtain ⟨vj, gj, dj⟩ := dqAll_get hd hj
                cases dj
                refine ⟨a, vs, n, .int j, rfl, rfl, f1, h0, gj, ?_⟩
                refine tv_st (T := T3) s2.env e2 P2 fun z ρ3 u H3 F3 fp3 s3 r3 e3 P3 => ?_
                unfold aug2 at e3
                split at e3
                · cases e3
                · rename_i hc3
                  obtain ⟨hT3, hc'⟩ := touch_of hc3
                  have pl3 := place_step s2.env s3 hT3 pl
                  split at e3
                  · rename_i k
                    cases (Option.some.inj e3)
                    cases r3
                    refine ⟨j, k, rfl, rfl, ?_⟩
                    have hts3 : treeAt ρ3 r = some (.lst (ds.map .dat)) := by
                      have hu := (s3.un r.1 hT3).1
                      unfold treeAt at hts ⊢
                      rw [hu]; exact hts
                    obtain ⟨a', vs', ea, ha', hd', st⟩ := mut_dat s3 hc' pl3 hts3 hfl
                    cases ea
                    have hjl : n.toNat < ds.length := (List.getElem?_eq_some_iff.mp hj).1
                    have hln := dqAll_len hd'
                    obtain ⟨fp', st⟩ := st (vs'.set n.toNat (.int (f j k))) (ds.set n.toNat (.int (f j k))) (dqAll_set (.int _) hd')
                    refine ⟨a, vs', n, n.toNat, rfl, rfl, ha', ?_, P2 σ _ F3 fp' st.st⟩
                    unfold ixN
                    rw [if_pos h0, if_pos (by omega)]
                  · cases e3
            · cases e2
          · cases e2
        · cases e2
      · cases e2
noncomputable def zipP (ds es : List PyData) : List PyData := (ds.zip es).map fun p => .tuple [p.1, p.2]
noncomputable def lzip1 (rs : List Rv) : M Rv := fun ρ => match rs with
  | [x, y] => (match derS ρ x, derS ρ y with
    | some (.list ds), some (.list es) => if ds.length = es.length then some (.ok (.d (.list (zipP ds es))) ρ) else none
    | _, _ => none)
  | _ => none
noncomputable def cListZip (fs : M (List Rv)) : M Rv := bnd fs lzip1
theorem lay_dq {F F' : Hp} (sF : Same F F') : ∀ {Ts : List Addr} {vs ws : List V} {ds es : List PyData}, DqAll K F vs ds → DqAll K F ws es → Ts.length = vs.length → vs.length = ws.length →
    (∀ (j : Nat) (T : Addr) (p : V × V), Ts[j]? = some T → (vs.zip ws)[j]? = some p → F' T = some (.tup [p.1, p.2])) → DqAll K F' (Ts.map .ref) (zipP ds es)
  | [], [], [], _, _, .nil, .nil, _, _, _ => .nil
  | [], _ :: _, _, _, _, _, _, h, _, _ => by simp at h
  | _ :: _, [], _, _, _, _, _, h, _, _ => by simp at h
  | [], [], _ :: _, _, _, _, _, _, h, _ => by simp at h
  | _ :: _, _ :: _, [], _, _, _, _, _, h, _ => by simp at h
  | T :: Ts, v :: vs, w :: ws, _, _, .cons h1 t1, .cons h2 t2, e1, e2, g => by
    refine .cons (.tup (g 0 T (v, w) rfl rfl) (.cons (dq_mono sF _ _ h1) (.cons (dq_mono sF _ _ h2) .nil))) ?_
    exact lay_dq sF t1 t2 (by simpa using e1) (by simpa using e2) fun j T p a b => g (j + 1) T p (by simpa using a) (by simpa using b)
theorem layT_same {H : Hp} {Ts : List Addr} {ps : List (V × V)} (hn : ∀ T ∈ Ts, H T = none) : Same H (layT H Ts ps) := fun b u e => by
  rw [layT_old fun z => by rw [hn b z] at e; cases e]
  exact e
theorem layT_le {F H : Hp} (s : Same F H) : ∀ {Ts : List Addr} {ps : List (V × V)}, Same (layT F Ts ps) (layT H Ts ps)
  | [], _ => by simp only [layT]; exact s
  | T :: Ts, [] => by simp only [layT]; exact s
  | T :: Ts, p :: ps => by simp only [layT]; exact same_upd2 (layT_le s)
variable {e2 : Expr} {p p' pos' : Pos}
noncomputable def tupled : PyData → Bool
  | .tuple (_ :: _) => true
  | _ => false
noncomputable def untupled : PyData → Bool
  | .tuple _ => false
  | .none => false
  | _ => true
noncomputable def sortOk (ds : List PyData) : Bool := ds.all (fun d => ds.all (fun e => PySem.W.alike d e)) && (ds.all tupled || ds.all untupled) && ds.all (fun d => decide (d.depth ≤ 60)) && ds.all PyData.canLay0
noncomputable def sortL (ds : List PyData) : List PyData := ds.mergeSort (PySem.W.dataLe false id)
noncomputable def sortedD : List PyData → Option PyData
  | [.list ds] => if sortOk ds then some (.list (sortL ds)) else none
  | _ => none
theorem dqAll_zip {F : Hp} : ∀ {vs : List V} {ds : List PyData}, DqAll K F vs ds → ∀ b ∈ vs.zip ds, Dq K F b.1 b.2
  | _, _, .nil, b, h => by simp at h
  | _, _, .cons h t, b, hb => by
    rcases List.mem_cons.mp (show b ∈ (_, _) :: _ from hb) with e | hb
    · subst e; exact h
    · exact dqAll_zip t b hb
theorem dqAll_of {F : Hp} : ∀ {bs : List (V × PyData)}, (∀ b ∈ bs, Dq K F b.1 b.2) → DqAll K F (bs.map (·.1)) (bs.map (·.2))
  | [], _ => .nil
  | b :: bs, h => .cons (h b List.mem_cons_self) (dqAll_of fun c hc => h c (List.mem_cons_of_mem _ hc))
theorem ok_sortedD : CallOk K (rSortD K) sortedD := by
  intro F H vs ds z Q s h e k
  unfold sortedD at e
  split at e
  · cases h with
    | cons h t =>
      cases t
      split at e
      · rename_i ds _ hz
        cases e
        obtain ⟨a, us, rfl, h1, h2⟩ := h.list s
        have hl := dqAll_len h2
        unfold sortOk at hz
        simp only [Bool.and_eq_true] at hz
        obtain ⟨⟨⟨z1, z2⟩, z3⟩, z4⟩ := hz
        have m1 : (us.zip ds).map (·.1) = us := List.map_fst_zip (by omega)
        have m2 : (us.zip ds).map (·.2) = ds := List.map_snd_zip (by omega)
        have mem : ∀ b ∈ us.zip ds, b.2 ∈ ds := fun b hb => (List.of_mem_zip (show (b.1, b.2) ∈ us.zip ds from hb)).2
        refine ⟨a, us.zip ds, rfl, by rw [m1]; exact h1, fun b hb => ⟨dq_dp _ _ (List.all_eq_true.mp z4 _ (mem b hb)) (dq_mono s _ _ (dqAll_zip h2 b hb)), of_decide_eq_true (List.all_eq_true.mp z3 _ (mem b hb))⟩, ?_, ?_, fun p np => ?_⟩
        · rw [m2]
          exact fun d hd d' hd' => List.all_eq_true.mp (List.all_eq_true.mp z1 d hd) d' hd'
        · rw [m2]
          rcases Bool.or_eq_true _ _ ▸ z2 with z | z
          · refine .inl fun d hd => ?_
            have := List.all_eq_true.mp z d hd
            unfold tupled at this
            split at this
            · exact ⟨_, _, rfl⟩
            · cases this
          · refine .inr fun d hd => ?_
            have := List.all_eq_true.mp z d hd
            unfold untupled at this
            split at this
            · cases this
            · cases this
            · rename_i n1 n2
              exact ⟨fun e => n2 e, fun xs e => n1 xs e⟩
        · have sF := same_upd (o := .lst (((us.zip ds).mergeSort (PySem.W.dataLe false (·.2))).map (·.1))) (s.free np)
          have mm : ((us.zip ds).mergeSort (PySem.W.dataLe false (·.2))).map (·.2) = sortL ds := by
            unfold sortL
            have z := List.map_mergeSort (r := PySem.W.dataLe false (fun b : V × PyData => b.2)) (s := PySem.W.dataLe false id) (f := fun b : V × PyData => b.2) (l := us.zip ds) (fun a _ b _ => rfl)
            rw [m2] at z
            exact z
          refine k _ _ _ (.new _ s np) (.lst (.inl upd_same) ?_)
          rw [← mm]
          exact dqAll_of fun b hb => dq_mono sF _ _ (dqAll_zip h2 b (List.mem_mergeSort.mp hb))
      · cases e
  · cases e
end
end VL

end

section
set_option Elab.async false
set_option linter.all false
set_option maxRecDepth 100000
namespace VL
open PySem PySem.Spec PyProof.Rows L2
section
variable {X : Cx} {T T1 T2 T3 : List Nat} {W : WV} {pos : Pos}
noncomputable def iOwn (i : Nat) : M (List PyData) := fun ρ => match ρ[i]? with
  | some (.own _ (.lst ts)) => (match flat ts with
    | some ds => some (.ok ds ρ)
    | none => none)
  | _ => none
end
section
variable {X : Cx} {T : List Nat} {W : WV} {K : Fg} {fs : M (List Rv)} {e e2 : Expr} {p p' pos pos' : Pos}
noncomputable def nzip1 (rs : List Rv) : M Tr := fun ρ => match rs with
  | [x, y] => (match derS ρ x, derS ρ y with
    | some (.list ds), some (.list es) => if ds.length = es.length then some (.ok (.lst ((zipP ds es).map .dat)) ρ) else none
    | _, _ => none)
  | _ => none
noncomputable def nListZip (fs : M (List Rv)) : M Tr := bnd fs nzip1
theorem vn_listzip (hcalm : X.calm = true) (hg : Gl X "zip") (hm : X.mg "zip" = none) (hg' : Gl X "list") (hm' : X.mg "list" = none) (ha : VA X T W [e, e2] fs)
    (hs : starEach [e, e2] X.env = (false, eval e X.env) :: starEach [e2] X.env := by rfl) (hpl : (backTo pos (starEach [e2] X.env)).any (·.1) = false := by rfl)
    (hs' : starEach [Expr.Call (.Name "zip" p) [e, e2] [] pos] X.env = (false, eval (.Call (.Name "zip" p) [e, e2] [] pos) X.env) :: starEach [] X.env := by rfl) (hpl' : (backTo pos' (starEach [] X.env)).any (·.1) = false := by rfl) :
    VN X T W (.Call (.Name "list" p') [.Call (.Name "zip" p) [e, e2] [] pos] [] pos') (nListZip fs) :=
  pe_imp (pe_listzip hcalm hg hm hg' hm' ha hs hpl hs' hpl') fun σ H Q ⟨F, ρ, fp, o, E, q, P⟩ => by
    refine tv_bnd E q P (fun i hi => hi) fun rs ρ1 vs H1 F1 fp1 s1 r1 e1 P1 => ?_
    unfold nzip1 at e1
    split at e1
    · rename_i x y
      split at e1
      · rename_i ds es hx hy
        split at e1
        · rename_i hl
          cases ok_inj e1
          cases r1 with
          | cons ra rb =>
            cases rb with
            | cons rb rc =>
              cases rc
              obtain ⟨a, xs, rfl, h1, h2⟩ := (derS_ok s1.env ra hx).list s1.env.sub
              obtain ⟨b, ys, rfl, h3, h4⟩ := (derS_ok s1.env rb hy).list s1.env.sub
              have hln : xs.length = ys.length := by rw [dqAll_len h2, dqAll_len h4]; exact hl
              refine ⟨a, b, xs, ys, rfl, .inl h1, .inl h3, hln, fun p Ts np nT nd lT => ?_⟩
              have sub := s1.env.sub
              have nTF : ∀ T ∈ Ts, F1 T = none := fun T hT => sub.free (nT T hT).1
              have pT : p ∉ Ts := fun z => (nT p z).2 rfl
              have npF : layT F1 Ts (xs.zip ys) p = none := by rw [layT_old pT]; exact sub.free np
              have npH : layT H1 Ts (xs.zip ys) p = none := by rw [layT_old pT]; exact np
              have sF : Same F1 (layT F1 Ts (xs.zip ys)) := layT_same nTF
              have gr : Grow F1 H1 (layT F1 Ts (xs.zip ys)) (upd (layT H1 Ts (xs.zip ys)) p (.lst (Ts.map .ref))) := by
                refine ⟨(layT_same fun T hT => (nT T hT).1).trans (same_upd npH), sF, (layT_le sub).trans (same_upd npH), fun b hb hb' => ?_⟩
                by_cases hbT : b ∈ Ts
                · exact (nT b hbT).1
                · rw [layT_old hbT] at hb'
                  exact absurd hb hb'
              refine P1 _ _ _ fp1 (gr.step s1.env) ⟨[p], .lst upd_same npF (trs_dat (lay_dq sF h2 h4 lT hln fun j T p' hj hp' => layT_get nd hj hp')), by simp, fun b hb => ?_, fun b hb ho => ?_⟩
              · rw [List.mem_singleton.mp hb]; exact .inl np
              · rw [List.mem_singleton.mp hb] at ho
                exact (s1.env.there ho).1 np
        · cases e1
      · cases e1
    · cases e1
noncomputable def cat1 (x y : Rv) : M Tr := fun ρ => match derS ρ x, derS ρ y with
  | some (.list as), some (.list bs) => if small (as.length + bs.length) then some (.ok (.lst ((as ++ bs).map .dat)) ρ) else none
  | _, _ => none
noncomputable def nCat (fa fb : M Rv) : M Tr := bnd fa fun x => bnd fb fun y => cat1 x y
variable {T1 T2 : List Nat} {fa fb : M Rv} {a b : Expr}
theorem vn_cat (ha : VE X T1 W a fa) (hb : VE X T2 W b fb) : VN X (T1 ++ T2) W (.BinOp a .Add b pos) (nCat fa fb) :=
  pe_imp (pe_op op_catR ha hb) fun σ H Q ⟨F, ρ, fp, o, E, e, P⟩ => by
    refine tv_bnd E e P (fun i hi => List.mem_append_left _ hi) fun x ρ1 v H1 F1 fp1 s1 r1 e1 P1 => ?_
    refine tv_bnd s1.env e1 P1 (fun i hi => List.mem_append_right _ hi) fun y ρ2 w H2 F2 fp2 s2 r2 e2 P2 => ?_
    unfold cat1 at e2
    split at e2
    · rename_i as bs hd hk
      split at e2
      · rename_i hz
        cases ok_inj e2
        obtain ⟨a, vs, rfl, h1, h2⟩ := (derS_ok s2.env (RvOk.step s2 r1) hd).list s2.env.sub
        obtain ⟨b, ws, rfl, h3, h4⟩ := (derS_ok s2.env r2 hk).list s2.env.sub
        refine ⟨a, b, vs, ws, rfl, rfl, h1, h3, by rw [dqAll_len h2, dqAll_len h4]; exact small_iff.mp hz, fun p np => ?_⟩
        have z := new_lst (T := T1 ++ T2) s2.env np (dqAll_app h2 h4)
        exact P2 _ _ _ fp2 z.1 ⟨_, z.2⟩
      · cases e2
    · cases e2
end
end VL

end

section
set_option Elab.async false
set_option linter.all false
set_option maxRecDepth 100000
namespace VL
open PySem PySem.Spec PyProof.Rows L2
section
variable {X : Cx} {T T1 T2 T3 : List Nat} {W : WV} {K : Fg} {pos : Pos}
theorem estep_upd {F H F2 H2 : Hp} {σ : Sg} {ρ ρ2 : Rho} {fp fp2 : FP} {p : Addr} {o : HO} (E : EnvOk K F H σ ρ fp) (s : EStep K T F H σ ρ fp F2 H2 ρ2 fp2) (np : H p = none) (nO : ¬ Owns fp2 p) (nF : F2 p = none) {o2 : HO} (h2 : H2 p = some o2) (hn : ∀ ps, o2 ≠ .tbl ps := by exact fun _ z => nomatch z) : EStep K T F H σ ρ fp F2 (upd H2 p o) ρ2 fp2 := by
  have ne : ∀ i b, b ∈ fp i → b ≠ p := fun i b hb z => (E.there ⟨i, hb⟩).1 (by rw [z]; exact np)
  have ne2 : ∀ i b, b ∈ fp2 i → b ≠ p := fun i b hb z => nO ⟨i, by rw [← z]; exact hb⟩
  have E2 := s.env
  refine ⟨⟨⟨fun b u e => ?_, E2.len, fun i sl h => ?_, E2.nil, E2.nd, E2.ap, E2.tb.upd fun ps z => hn ps (Option.some.inj (h2.symm.trans z)), E2.al' (fun _ _ _ h => ⟨h, rfl⟩) fun i _ _ h => ⟨h, rfl, fun b hb => upd_ne (ne2 i b hb)⟩⟩, s.st.fr, s.st.nf, fun b hb => ?_, fun b u e n nt => ?_, s.st.own, s.st.pin, fun i t h => ?_⟩, s.ko, fun i hi => ?_⟩
  · rw [upd_ne fun z => by rw [z, nF] at e; cases e]
    exact E2.sub b u e
  · have q := E2.sl i sl h
    cases sl with
    | no => trivial
    | al _ _ => trivial
    | val d => exact q
    | own m t =>
      obtain ⟨u, e1, e2⟩ := q
      exact ⟨u, e1, e2.move (Same.refl _) fun b hb => ⟨upd_ne (ne2 i b hb), (e2.mem b hb).2⟩⟩
  · by_cases z : b = p
    · rw [z]; exact np
    · rw [upd_ne z] at hb; exact s.st.dom b hb
  · rw [upd_ne fun z => by rw [z, np] at e; cases e]
    exact s.st.frame b u e n nt
  · obtain ⟨a1, a2, a3, a4⟩ := s.st.lock i t h
    exact ⟨a1, a2, a3, fun b hb => by rw [upd_ne (ne i b hb)]; exact a4 b hb⟩
  · obtain ⟨a1, a2, a3⟩ := s.un i hi
    exact ⟨a1, a2, fun b hb => by rw [upd_ne (ne i b hb)]; exact a3 b hb⟩
noncomputable def mkDT (x y : Rv) : M Tr := fun ρ => match x, y with
  | .d kd, .d d => (match keyT kd with
    | some ks => some (.ok (.dt [(ks, .dat d)]) ρ)
    | none => none)
  | _, _ => none
noncomputable def nDT (fk fv : M Rv) : M Tr := bnd fk fun x => bnd fv fun y => mkDT x y
variable {x : Str} {e : Expr} {fs : M (List Rv)} {apos cpos xpos : Pos}
noncomputable def call1T (f : Fn) (t : Tr) : M Tr := fun ρ => match f [.own .free t] with
  | some (.ret r, _) => some (.ok r ρ)
  | _ => none
noncomputable def nCallT (f : Fn) (g : M Tr) : M Tr := bnd g (call1T f)
variable {k : Nat} {f : Addr} {fd : FuncData} {ps : List Str} {F : Fn} {p : Pos} {fn : M Tr}
end
end VL

end

section
set_option Elab.async false
set_option linter.all false
set_option maxRecDepth 100000
namespace VL
open PySem PySem.Spec PyProof.Rows L2
section
variable {X : Cx} {T T1 T2 : List Nat} {W : WV} {K : Fg} {pos : Pos}
noncomputable def intKeys : List (Key × Tr) → Option (List Int)
  | [] => some []
  | (.inl i, _) :: r => (intKeys r).map (i :: ·)
  | _ :: _ => none
noncomputable def sortI (ks : List Int) : List Int := ks.mergeSort fun a b => decide (a ≤ b)
noncomputable def cSortDI (f : M (Nat × List Nat)) : M Rv := bnd f fun r => fun ρ => match treeAt ρ r with
  | some (.dk kvs) => (match intKeys kvs with
    | some ks => some (.ok (.d (.list ((sortI ks).map .int))) ρ)
    | none => none)
  | _ => none
variable {e : Expr} {x : Str} {p : Pos} {fp1 : M (Nat × List Nat)}
end
end VL

end

section
set_option Elab.async false
set_option linter.all false
set_option maxRecDepth 100000
namespace VL
open PySem PySem.Spec PyProof.Rows L2
theorem KT.upd {H : Hp} {d b : Addr} {o : HO} (h : KT (L2.upd H d o) b) (h1 : ∀ ks : List Key, o ≠ .tup (ks.map kV)) (h2 : ∀ ps, o ≠ .tbl ps) : KT H b := by
  unfold KT at h ⊢
  by_cases e : b = d
  · subst e
    rw [upd_same] at h
    rcases h with ⟨ks, h⟩ | ⟨ps, h⟩
    · exact absurd (Option.some.inj h) (h1 ks)
    · exact absurd (Option.some.inj h) (h2 ps)
  · rw [upd_ne e] at h
    exact h
section
variable {X : Cx} {T T1 T2 : List Nat} {W : WV} {K : Fg} {pos : Pos} {e : Expr}
noncomputable def keyPD : Key → PyData
  | .inl i => .int i
  | .inr z => .str z
theorem keyPD_ok {F : Hp} {k : Key} : Dq K F (kV k) (keyPD k) := by
  cases k with
  | inl i => exact .int i
  | inr z => exact .str z
end
end VL

end

section
set_option Elab.async false
set_option linter.all false
set_option maxRecDepth 100000
namespace VL
open PySem PySem.Spec PyProof.Rows L2
section
variable {X : Cx} {T T1 T2 : List Nat} {W : WV} {K : Fg} {pos : Pos}
noncomputable def nnone : PyData → Bool
  | .none => false
  | _ => true
noncomputable def maxOk (ds : List PyData) : Bool := ds.all (fun d => ds.all fun e => PySem.W.alike d e) && ds.all nnone && decide (PyData.depthAll ds ≤ 60) && ds.all PyData.canLay0
noncomputable def maxTD : List PyData → Option PyData
  | [.list (d :: ds)] => if maxOk (d :: ds) then some (PySem.W.maxD d ds) else none
  | _ => none
variable {fa fb : M Rv} {a b : Expr} {rest : List Expr}
end
end VL

end

section
set_option Elab.async false
set_option linter.all false
set_option maxRecDepth 100000
namespace VL
open PySem PySem.Spec PyProof.Rows L2
structure NewsOk (K : Fg) (H : Hp) (fp : FP) (F' H' : Hp) (fp' : FP) (vs : List V) (ts : List Tr) (A : List Addr) : Prop where
  ok : TrsOk K F' H' vs ts A
  nd : A.Nodup
  new : ∀ b ∈ A, H b = none ∨ Owns fp b
  out : ∀ b ∈ A, ¬ Owns fp' b
theorem step_off {K : Fg} {F H F1 H1 : Hp} {σ σ1 : Sg} {ρ ρ1 : Rho} {fp fp1 : FP} (s : Step K F H σ ρ fp F1 H1 σ1 ρ1 fp1) {A : List Addr} (hA : ∀ b ∈ A, H b ≠ none ∧ F b = none) (hK : ∀ b ∈ A, ¬ KT H b) (ho : ∀ b ∈ A, ¬ Owns fp b) :
    (∀ b ∈ A, H1 b = H b ∧ F1 b = none) ∧ ∀ b ∈ A, ¬ Owns fp1 b := by
  refine ⟨fun b hb => ⟨?_, ?_⟩, fun b hb h => ?_⟩
  · cases q : H b with
    | none => exact absurd q (hA b hb).1
    | some o => exact s.frame b o q (ho b hb) fun ps z => hK b hb (.inr ⟨ps, z ▸ q⟩)
  · cases q : F1 b with
    | none => rfl
    | some o =>
      rcases s.nf b (hA b hb).2 (by rw [q]; exact fun z => nomatch z) with z | z | z
      · exact absurd z (hA b hb).1
      · exact absurd z (ho b hb)
      · exact absurd z (hK b hb)
  · rcases s.own b h with z | z
    · exact ho b hb z
    · exact (hA b hb).1 z
theorem NewOk.keep {K : Fg} {H0 F H F1 H1 : Hp} {σ σ1 : Sg} {ρ ρ1 : Rho} {fp0 fp fp1 : FP} {v : V} {t : Tr} {A : List Addr} (n : NewOk K H0 fp0 F H fp v t A) (s : Step K F H σ ρ fp F1 H1 σ1 ρ1 fp1) : NewOk K H0 fp0 F1 H1 fp1 v t A := by
  obtain ⟨h1, h2⟩ := step_off s n.ok.mem n.ok.nkt n.out
  exact ⟨n.ok.move s.fr h1, n.nd, n.new, h2⟩
theorem NewsOk.keep {K : Fg} {H0 F H F1 H1 : Hp} {σ σ1 : Sg} {ρ ρ1 : Rho} {fp0 fp fp1 : FP} {v : List V} {t : List Tr} {A : List Addr} (n : NewsOk K H0 fp0 F H fp v t A) (s : Step K F H σ ρ fp F1 H1 σ1 ρ1 fp1) : NewsOk K H0 fp0 F1 H1 fp1 v t A := by
  obtain ⟨h1, h2⟩ := step_off s n.ok.mem n.ok.nkt n.out
  exact ⟨n.ok.move s.fr h1, n.nd, n.new, h2⟩
noncomputable def rlNs (K : Fg) : Rl K (List Tr) (List V) := ⟨fun H fp F' H' fp' _ _ v t => ∃ A, NewsOk K H fp F' H' fp' v t A, fun e h => by
  obtain ⟨A, h⟩ := h
  refine ⟨A, h.ok, h.nd, fun b hb => ?_, h.out⟩
  rcases h.new b hb with z | z
  · exact .inl (e.st.dom b z)
  · exact (e.st.own b z).symm⟩
noncomputable abbrev tVNs (K : Fg) (T : List Nat) (W : WV) (f : M (List Tr)) : TA := fun σ H Q => TVg T W (rlNs K) f σ H Q
noncomputable def VNs (X : Cx) (T : List Nat) (W : WV) (es : List Expr) (f : M (List Tr)) : Prop := PA X es (tVNs X.K T W f)
noncomputable def tNilM : M (List Tr) := ret []
noncomputable def tConsM (f : M Tr) (g : M (List Tr)) : M (List Tr) := bnd f fun x => bnd g fun xs => ret (x :: xs)
section
variable {X : Cx} {T T1 T2 T3 : List Nat} {W : WV} {K : Fg} {fn : M Tr} {fs : M (List Tr)} {e : Expr} {es : List Expr} {pos : Pos}
theorem vns_nil : VNs X [] W [] tNilM := pa_imp pa_nil fun σ H Q ⟨F, ρ, fp, o, E, e, P⟩ => by
  cases ok_inj e
  exact P _ H F fp (.refl E) ⟨[], .nil, List.nodup_nil, (fun _ h => nomatch h), (fun _ h => nomatch h)⟩
theorem news_cons {H F1 H1 F2 H2 : Hp} {σ : Sg} {ρ1 ρ2 : Rho} {fp fp1 fp2 : FP} {v : V} {vs : List V} {t : Tr} {ts : List Tr} {A B : List Addr} (n1 : NewOk K H fp F1 H1 fp1 v t A) (s2 : EStep K T F1 H1 σ ρ1 fp1 F2 H2 ρ2 fp2) (n2 : NewsOk K H1 fp1 F2 H2 fp2 vs ts B)
    {F : Hp} {ρ : Rho} (s1 : EStep K T1 F H σ ρ fp F1 H1 ρ1 fp1) : NewsOk K H fp F2 H2 fp2 (v :: vs) (t :: ts) (A ++ B) := by
  have k1 := n1.keep s2.st
  refine ⟨.cons k1.ok n2.ok, ?_, fun b hb => ?_, fun b hb => ?_⟩
  · rw [List.nodup_append]
    refine ⟨k1.nd, n2.nd, fun a ha b hb e => ?_⟩
    subst e
    rcases n2.new a hb with z | z
    · exact (n1.ok.mem a ha).1 z
    · exact n1.out a ha z
  · rcases List.mem_append.mp hb with z | z
    · exact k1.new b z
    · rcases n2.new b z with q | q
      · exact .inl (s1.st.dom b q)
      · exact (s1.st.own b q).symm
  · rcases List.mem_append.mp hb with z | z
    · exact k1.out b z
    · exact n2.out b z
theorem vns_cons (ha : VN X T1 W e fn) (hb : VNs X T2 W es fs) (hs : starEach (e :: es) X.env = (false, eval e X.env) :: starEach es X.env := by rfl) : VNs X (T1 ++ T2) W (e :: es) (tConsM fn fs) :=
  pa_imp (pa_cons ha hb hs) fun σ H Q ⟨F, ρ, fp, o, E, e, P⟩ => by
    unfold tConsM bnd at e
    cases h1 : fn ρ with
    | none => rw [h1] at e; cases e
    | some r =>
      rw [h1] at e
      cases r with
      | ex c ρ1 =>
        cases e
        exact ⟨F, ρ, fp, _, E, h1, fun H1 F1 fp1 st => P H1 F1 fp1 (st.sub fun i hi => List.mem_append_left _ hi)⟩
      | ok t ρ1 =>
        refine ⟨F, ρ, fp, _, E, h1, fun v H1 F1 fp1 s1 ⟨A, n1⟩ => ?_⟩
        simp only at e
        cases h2 : fs ρ1 with
        | none => rw [h2] at e; cases e
        | some r2 =>
          rw [h2] at e
          cases r2 with
          | ex c ρ2 =>
            cases e
            exact ⟨F1, ρ1, fp1, _, s1.env, h2, fun H2 F2 fp2 s2 => P H2 F2 fp2 ((s1.sub fun i hi => List.mem_append_left _ hi).trans (s2.sub fun i hi => List.mem_append_right _ hi))⟩
          | ok ts ρ2 =>
            cases ok_inj e
            exact ⟨F1, ρ1, fp1, _, s1.env, h2, fun vs H2 F2 fp2 s2 ⟨B, n2⟩ => P _ H2 F2 fp2 ((s1.sub fun i hi => List.mem_append_left _ hi).trans (s2.sub fun i hi => List.mem_append_right _ hi)) ⟨_, news_cons n1 s2 n2 s1⟩⟩
theorem news_lay {F H F1 H1 : Hp} {σ : Sg} {ρ ρ1 : Rho} {fp fp1 : FP} {vs : List V} {ts : List Tr} {A : List Addr} {p : Addr} {o : HO} (n : NewsOk K H fp F1 H1 fp1 vs ts A) (s1 : EStep K T F H σ ρ fp F1 H1 ρ1 fp1) (np : H1 p = none) :
    EStep K T F H σ ρ fp F1 (upd H1 p o) ρ1 fp1 ∧ TrsOk K F1 (upd H1 p o) vs ts A ∧ (p :: A).Nodup ∧ (∀ b ∈ p :: A, H b = none ∨ Owns fp b) ∧ ∀ b ∈ p :: A, ¬ Owns fp1 b := by
  have g := Grow.lay o s1.env.sub np
  have hne : ∀ b ∈ A, b ≠ p := fun b hb z => (n.ok.mem b hb).1 (by rw [z]; exact np)
  refine ⟨s1.trans (g.step s1.env), n.ok.move (Same.refl _) fun b hb => ⟨upd_ne (hne b hb), (n.ok.mem b hb).2⟩, List.nodup_cons.mpr ⟨fun h => hne p h rfl, n.nd⟩, fun b hb => ?_, fun b hb h => ?_⟩
  · rcases List.mem_cons.mp hb with z | z
    · rw [z]; exact .inl (s1.st.dom p np)
    · exact n.new b z
  · rcases List.mem_cons.mp hb with z | z
    · rw [z] at h; exact (s1.env.there h).1 np
    · exact n.out b z h
noncomputable def isNode : Tr → Bool
  | .tup _ => true
  | .lst _ => true
  | .dk _ => true
  | .dt _ => true
  | .ins _ _ => true
  | _ => false
theorem node_ref {F H : Hp} {v : V} {t : Tr} {A : List Addr} (h : TrOk K F H v t A) (hn : isNode t = true) : ∃ a, v = .ref a := by
  cases h <;> first | exact ⟨_, rfl⟩ | cases hn
theorem nodes_no {F H : Hp} : ∀ {vs : List V} {ts : List Tr} {A : List Addr}, TrsOk K F H vs ts A → ts.any isNode = true → ∀ ks : List Key, vs ≠ ks.map kV
  | _, _, _, .nil, h, _ => by cases h
  | _, _, _, .cons q r, h, ks => by
    intro e
    rw [List.any_cons, Bool.or_eq_true] at h
    cases ks with
    | nil => cases e
    | cons k ks =>
      rw [List.map_cons] at e
      injection e with e1 e2
      rcases h with h | h
      · obtain ⟨a, rfl⟩ := node_ref q h
        cases k <;> cases e1
      · exact nodes_no r h ks e2
noncomputable def nTupT (fs : M (List Tr)) : M Tr := bnd fs fun ts => fun ρ => if small ts.length && ts.any isNode then some (.ok (.tup ts) ρ) else none
noncomputable def nLstT (fs : M (List Tr)) : M Tr := bnd fs fun ts => fun ρ => if small ts.length then some (.ok (.lst ts) ρ) else none
theorem vn_tupT {x1} (h : VNs X T W es fs) : VN X T W (.Tuple es x1 pos) (nTupT fs) := pe_imp (pe_tup h) fun σ H Q ⟨F, ρ, fp, o, E, e, P⟩ => by
  unfold nTupT bnd at e
  cases h1 : fs ρ with
  | none => rw [h1] at e; cases e
  | some r =>
    rw [h1] at e
    cases r with
    | ex c ρ1 => cases e; exact ⟨F, ρ, fp, _, E, h1, fun H1 F1 fp1 st => P H1 F1 fp1 st⟩
    | ok ts ρ1 =>
      simp only at e
      split at e
      · rename_i hz
        rw [Bool.and_eq_true] at hz
        cases ok_inj e
        refine ⟨F, ρ, fp, _, E, h1, fun vs H1 F1 fp1 s1 ⟨A, n⟩ => ⟨by rw [n.ok.len]; exact of_decide_eq_true hz.1, fun p np => ?_⟩⟩
        obtain ⟨s2, q1, q2, q3, q4⟩ := news_lay (o := .tup vs) n s1 np
        exact P _ _ _ fp1 s2 ⟨p :: A, .tup upd_same ⟨s1.env.sub.free np, nodes_no q1 hz.2⟩ q1, q2, q3, q4⟩
      · cases e
end
end VL

end

section
set_option Elab.async false
set_option linter.all false
set_option maxRecDepth 100000
namespace VL
open PySem PySem.Spec PyProof.Rows L2
section
variable {P : Program} {w : World} {A : Around} {E : Value → Shared → Prop} {s : Shared}
end
section
variable {X : Cx} {T T1 T2 : List Nat} {W : WV} {K : Fg} {pos : Pos}
end
end VL

end

section
set_option Elab.async false
set_option linter.all false
set_option maxRecDepth 100000
set_option maxHeartbeats 2000000
namespace VLH
open PySem PySem.Spec PyProof.Rows L2 HotX L2H
section
variable {X : Cx}
end
structure FnE (P : Program) (w : World) (K : PySem.W.Frag) (mg : Str → Option Value) (base : Heap) (k : Nat) (f : Addr) (fd : FuncData) (ps : List Str) (sp : Addr → Addr → Sp) : Prop where
  len : ∀ a D vs H Q E, sp a D vs H Q E → vs.length = ps.length
  run : ∀ (A : Around) (outer : List Env) (s : Shared) (H : Hp) (args : Args) (us : List Value) (vs : List V) (Q : VK) (E : XK) (p : Addr × Obj) (D : Addr), RoomH k A → Hot1 A p → PinOk outer H s p → Zc (.ref D) none p.2 → Env0 P w K mg base A outer s H → BindsTo s fd args (ps.zip us) → Vals vs us → sp p.1 D vs H Q E →
    codeAny (model P w) A (.call (.ref f) args) (CR CX0 outer P w H s Q E) s
end VLH

end

section
set_option Elab.async false
set_option linter.all false
set_option maxRecDepth 100000
set_option maxHeartbeats 2000000
namespace VL
open PySem PySem.Spec PyProof.Rows L2
section
variable {P : Program} {w : World} {K : PySem.W.Frag} {mg : Str → Option Value} {base : Heap}
end
noncomputable def callR (Ts : List Nat) (m : Nat) (f : Fn) (rs : List Rv) : M Tr := fun ρ => match argSls ρ rs with
  | some args => if decide (rs.length = m) && (oneEach rs && allIn Ts rs) then (match f args with
    | some (.ret t, outs) => if backOk args (mrg args outs) then some (.ok t (wb ρ rs (mrg args outs))) else none
    | some (.exc c, outs) => if backOk args (mrg args outs) then some (.ex c (wb ρ rs (mrg args outs))) else none
    | none => none) else none
  | none => none
noncomputable def nCallR (Ts : List Nat) (m : Nat) (f : Fn) (fs : M (List Rv)) : M Tr := bnd fs (callR Ts m f)
section
variable {X : Cx} {T : List Nat} {W : WV} {k m : Nat} {f : Addr} {fd : FuncData} {ps : List Str} {F : Fn} {x : Str} {p pos : Pos} {e : Expr} {es : List Expr} {fs : M (List Rv)} {Ts : List Nat}
noncomputable def sRaise (c : Str) : MS := fun ρ => some (.ex c ρ)
noncomputable def excB (K : PySem.W.Frag) (cs : List Addr) (C : Addr) : Bool :=
  PySem.W.excIn K C [.type "ValueError", .type "Exception", .type "BaseException", .type "object"] "ValueError.__new__" && PySem.W.keepIn K (.ref C) &&
  ((PySem.W.subIn K (.ref C) (.type "BaseException") == some true) && (PySem.W.typeIn K (.ref C) == some (.type "type"))) &&
  ((PySem.W.findIn K (.ref C) "__getattribute__" == some (some (.builtin "BaseException.__getattribute__"))) && (PySem.W.findIn K (.ref C) "__getattr__" == some none)) &&
  (PySem.W.hasDictIn K C && (PySem.W.findIn K (.ref C) "__class__" == some (some (.builtin "object.__class__")))) &&
  ((PySem.W.specialIn K (.builtin "object.__class__") "__get__" == some (some (.builtin "getset_descriptor.__get__"))) && (PySem.W.takesIn K (.builtin "object.__class__") == some true)) &&
  ((PySem.W.mroIn K C (.type "object") == some true) && (PySem.W.kitOne K (.ref C) (.type "ValueError") == some true)) &&
  cs.all (fun D => PySem.W.kitOne K (.ref C) (.ref D) == some (C == D))
structure ExcF (K : PySem.W.Frag) (cs : List Addr) (C : Addr) : Prop where
  ex : PySem.W.excIn K C [.type "ValueError", .type "Exception", .type "BaseException", .type "object"] "ValueError.__new__" = true
  kp : PySem.W.keepIn K (.ref C) = true
  sb : PySem.W.subIn K (.ref C) (.type "BaseException") = some true
  ty : PySem.W.typeIn K (.ref C) = some (.type "type")
  c : ExcC K C
  ve : PySem.W.kitOne K (.ref C) (.type "ValueError") = some true
  ds : ∀ D ∈ cs, PySem.W.kitOne K (.ref C) (.ref D) = some (C == D)
theorem excF_of {K : PySem.W.Frag} {cs : List Addr} {C : Addr} (h : excB K cs C = true) : ExcF K cs C := by
  unfold excB at h
  simp only [Bool.and_eq_true, beq_iff_eq, List.all_eq_true] at h
  obtain ⟨⟨⟨⟨⟨⟨⟨h1, h2⟩, h3, h4⟩, h5, h6⟩, h7, h8⟩, h9, h10⟩, h11, h12⟩, h13⟩ := h
  exact ⟨h1, h2, h3, h4, ⟨h5, h6, h3, h7, h8, h9, h10, h11⟩, h12, h13⟩
noncomputable def plusS : Str := ⟨#[43]⟩
noncomputable def isNo : Option Sl → Bool
  | some .no => true
  | _ => false
noncomputable def sTryK (cs : List Str) (j k : Nat) (g : MS) : MS := fun ρ => match g ρ with
  | some (.ex c ρ1) => if c ∈ cs ∧ isNo ρ1[j]? = true then (match setSl ρ1 k (.val (.str (c ++ plusS))) with
    | some ρ2 => if isNo ρ2[j]? then some (.nx ρ2) else none
    | none => none) else none
  | o => o
end
end VL

end

section
set_option Elab.async false
set_option linter.all false
set_option maxRecDepth 100000
namespace VL
open PySem PySem.Spec PyProof.Rows L2

noncomputable def okM {α : Type} (o : Option (Er α)) (P : α → Rho → Prop) : Prop := ∃ a ρ, o = some (.ok a ρ) ∧ P a ρ
noncomputable def okS (o : Option Out) (P : Out → Prop) : Prop := ∃ x, o = some x ∧ P x
noncomputable def okF (o : Option (FR × List Sl)) (P : Tr → List Sl → Prop) : Prop := ∃ t outs, o = some (.ret t, outs) ∧ P t outs
noncomputable def okR (o : Option Rho) (P : Rho → Prop) : Prop := ∃ ρ, o = some ρ ∧ P ρ
noncomputable def okO {α : Type} (o : Option α) (P : α → Prop) : Prop := ∃ a, o = some a ∧ P a
section
variable {α β : Type} {ρ : Rho}
@[simp] theorem okO_some {a : α} {P : α → Prop} : okO (some a) P ↔ P a := ⟨fun ⟨_, e, h⟩ => by cases e; exact h, fun h => ⟨_, rfl, h⟩⟩
@[simp] theorem okO_none {P : α → Prop} : okO (none : Option α) P ↔ False := ⟨fun ⟨_, e, _⟩ => (by cases e), False.elim⟩
@[simp] theorem okR_some {P : Rho → Prop} {ρ : Rho} : okR (some ρ) P ↔ P ρ := ⟨fun ⟨_, e, h⟩ => by cases e; exact h, fun h => ⟨_, rfl, h⟩⟩
@[simp] theorem okR_none {P : Rho → Prop} : okR none P ↔ False := ⟨fun ⟨_, e, _⟩ => (by cases e), False.elim⟩
@[simp] theorem okS_some {P : Out → Prop} {o : Out} : okS (some o) P ↔ P o := ⟨fun ⟨_, e, h⟩ => by cases e; exact h, fun h => ⟨_, rfl, h⟩⟩
@[simp] theorem okS_none {P : Out → Prop} : okS none P ↔ False := ⟨fun ⟨_, e, _⟩ => (by cases e), False.elim⟩
@[simp] theorem okM_ok {a : α} {P : α → Rho → Prop} : okM (some (Er.ok a ρ)) P ↔ P a ρ := ⟨fun ⟨_, _, e, h⟩ => by cases e; exact h, fun h => ⟨_, _, rfl, h⟩⟩
@[simp] theorem okM_none {P : α → Rho → Prop} : okM (none : Option (Er α)) P ↔ False := ⟨fun ⟨_, _, e, _⟩ => (by cases e), False.elim⟩
@[simp] theorem okF_some {P : Tr → List Sl → Prop} {t : Tr} {outs : List Sl} : okF (some (.ret t, outs)) P ↔ P t outs := ⟨fun ⟨_, _, e, h⟩ => by cases e; exact h, fun h => ⟨_, _, rfl, h⟩⟩
theorem okM_congr {o : Option (Er α)} {P Q : α → Rho → Prop} (h : ∀ a ρ, P a ρ ↔ Q a ρ) : okM o P ↔ okM o Q := ⟨fun ⟨a, ρ, e, p⟩ => ⟨a, ρ, e, (h a ρ).mp p⟩, fun ⟨a, ρ, e, p⟩ => ⟨a, ρ, e, (h a ρ).mpr p⟩⟩
@[simp] theorem okM_bnd {f : M α} {k : α → M β} {P : β → Rho → Prop} : okM (bnd f k ρ) P ↔ okM (f ρ) fun a ρ1 => okM (k a ρ1) P := by
  unfold bnd
  constructor
  · rintro ⟨b, ρ2, e, h⟩
    cases q : f ρ with
    | none => rw [q] at e; cases e
    | some r =>
      rw [q] at e
      cases r with
      | ok a ρ1 => exact ⟨a, ρ1, rfl, b, ρ2, e, h⟩
      | ex c ρ1 => cases e
  · rintro ⟨a, ρ1, e, b, ρ2, e2, h⟩
    exact ⟨b, ρ2, by rw [e]; exact e2, h⟩
@[simp] theorem okM_ret {a : α} {P : α → Rho → Prop} : okM (ret a ρ) P ↔ P a ρ := okM_ok
@[simp] theorem okS_E {f : M α} {k : α → MS} {P : Out → Prop} (hx : ∀ c ρ, P (.ex c ρ) ↔ False) : okS (sE f k ρ) P ↔ okM (f ρ) fun a ρ1 => okS (k a ρ1) P := by
  unfold sE
  constructor
  · rintro ⟨o, e, h⟩
    cases q : f ρ with
    | none => rw [q] at e; cases e
    | some r =>
      rw [q] at e
      cases r with
      | ok a ρ1 => exact ⟨a, ρ1, rfl, o, e, h⟩
      | ex c ρ1 => cases e; exact ((hx _ _).mp h).elim
  · rintro ⟨a, ρ1, e, o, e2, h⟩
    exact ⟨o, by rw [e]; exact e2, h⟩
theorem okS_E' {f : M α} {k : α → MS} {P : Out → Prop} (h : okM (f ρ) fun a ρ1 => okS (k a ρ1) P) : okS (sE f k ρ) P := by
  obtain ⟨a, ρ1, e, o, e2, h⟩ := h
  exact ⟨o, by unfold sE; rw [e]; exact e2, h⟩
noncomputable def nxt (h : MS) (P : Out → Prop) : Out → Prop
  | .nx ρ1 => okS (h ρ1) P
  | o => P o
@[simp] theorem nxt_nx {h : MS} {P : Out → Prop} : nxt h P (.nx ρ) ↔ okS (h ρ) P := Iff.rfl
@[simp] theorem nxt_rt {h : MS} {P : Out → Prop} {t : Tr} : nxt h P (.rt t ρ) ↔ P (.rt t ρ) := Iff.rfl
@[simp] theorem nxt_bk {h : MS} {P : Out → Prop} : nxt h P (.bk ρ) ↔ P (.bk ρ) := Iff.rfl
@[simp] theorem nxt_ct {h : MS} {P : Out → Prop} : nxt h P (.ct ρ) ↔ P (.ct ρ) := Iff.rfl
@[simp] theorem nxt_ex {h : MS} {P : Out → Prop} {c : Str} : nxt h P (.ex c ρ) ↔ P (.ex c ρ) := Iff.rfl
theorem okS_seq {g h : MS} {P : Out → Prop} : okS (sSeq g h ρ) P ↔ okS (g ρ) (nxt h P) := by
  unfold sSeq
  constructor
  · rintro ⟨o, e, p⟩
    cases q : g ρ with
    | none => rw [q] at e; cases e
    | some r =>
      rw [q] at e
      cases r with
      | nx ρ1 => exact ⟨_, rfl, o, e, p⟩
      | _ => cases e; exact ⟨_, rfl, p⟩
  · rintro ⟨r, q, p⟩
    cases r with
    | nx ρ1 =>
      obtain ⟨o, e, p⟩ := p
      exact ⟨o, by rw [q]; exact e, p⟩
    | _ => exact ⟨_, by rw [q], p⟩
theorem okM_mono {o : Option (Er α)} {P Q : α → Rho → Prop} (h : okM o P) (i : ∀ a ρ, P a ρ → Q a ρ) : okM o Q := let ⟨x, ρ, e, p⟩ := h; ⟨x, ρ, e, i x ρ p⟩
theorem okF_mono {o : Option (FR × List Sl)} {P Q : Tr → List Sl → Prop} (h : okF o P) (i : ∀ a ρ, P a ρ → Q a ρ) : okF o Q := let ⟨x, ρ, e, p⟩ := h; ⟨x, ρ, e, i x ρ p⟩
@[simp] theorem okM_cD {x : PyData} {P : Rv → Rho → Prop} : okM (cD x ρ) P ↔ P (.d x) ρ := okM_ok
theorem okM_bin1 {g : PyData → PyData → Option PyData} {x y : Rv} {P : Rv → Rho → Prop} : okM (bin1 g x y ρ) P ↔ okO (derS ρ x) fun a => okO (derS ρ y) fun b => okO (g a b) fun z => P (.d z) ρ := by
  unfold bin1
  cases derS ρ x <;> cases derS ρ y <;> simp
  rename_i a b
  cases g a b <;> simp
@[simp] theorem okM_cBin {g : PyData → PyData → Option PyData} {fa fb : M Rv} {P : Rv → Rho → Prop} : okM (cBin g fa fb ρ) P ↔ okM (fa ρ) fun x ρ1 => okM (fb ρ1) fun y ρ2 => okO (derS ρ2 x) fun a => okO (derS ρ2 y) fun b => okO (g a b) fun z => P (.d z) ρ2 := by
  unfold cBin
  simp only [okM_bnd, okM_bin1]
theorem okM_binD {g : PyData → PyData → Option Bool} {x y : Rv} {P : Bool → Rho → Prop} : okM (binD g x y ρ) P ↔ okO (der ρ x) fun a => okO (der ρ y) fun b => okO (g a b) fun z => P z ρ := by
  unfold binD
  cases der ρ x <;> cases der ρ y <;> simp
  rename_i a b
  cases g a b <;> simp
@[simp] theorem okM_cCmp {g : PyData → PyData → Option Bool} {fa fb : M Rv} {P : Bool → Rho → Prop} : okM (cCmp g fa fb ρ) P ↔ okM (fa ρ) fun x ρ1 => okM (fb ρ1) fun y ρ2 => okO (der ρ2 x) fun a => okO (der ρ2 y) fun b => okO (g a b) fun z => P z ρ2 := by
  unfold cCmp
  simp only [okM_bnd, okM_binD]
@[simp] theorem okM_cOf {f : M Bool} {P : Rv → Rho → Prop} : okM (cOf f ρ) P ↔ okM (f ρ) fun b ρ1 => P (.d (.bool b)) ρ1 := by
  unfold cOf
  simp only [okM_bnd, okM_ret]
@[simp] theorem okM_chain {g g' : PyData → PyData → Option Bool} {fa fb fc : M Rv} {P : Bool → Rho → Prop} : okM (cChain g g' fa fb fc ρ) P ↔ okM (fa ρ) fun x ρ1 => okM (fb ρ1) fun y ρ2 => okO (der ρ2 x) fun a => okO (der ρ2 y) fun b => okO (g a b) fun k =>
    if k = true then okM (fc ρ2) fun z ρ3 => okO (der ρ3 y) fun b' => okO (der ρ3 z) fun c => okO (g' b' c) fun r => P r ρ3 else P false ρ2 := by
  unfold cChain
  simp only [okM_bnd, okM_binD]
  have e : ∀ (k : Bool) (y : Rv) (ρ2 : Rho), okM ((if k = true then bnd fc fun z => binD g' y z else ret false) ρ2) P ↔ if k = true then okM (fc ρ2) fun z ρ3 => okO (der ρ3 y) fun b' => okO (der ρ3 z) fun c => okO (g' b' c) fun r => P r ρ3 else P false ρ2 := fun k y ρ2 => by
    cases k <;> simp [okM_binD]
  simp only [e]
@[simp] theorem okM_cTest {f : M Rv} {P : Bool → Rho → Prop} : okM (cTest f ρ) P ↔ okM (f ρ) fun x ρ1 => okO (asB ρ1 x) fun b => P b ρ1 := by
  unfold cTest
  rw [okM_bnd]
  refine okM_congr fun x ρ1 => ?_
  cases asB ρ1 x <;> simp
@[simp] theorem asB_d {b : Bool} : asB ρ (.d (.bool b)) = some b := rfl
@[simp] theorem okM_cNot {f : M Bool} {P : Bool → Rho → Prop} : okM (cNot f ρ) P ↔ okM (f ρ) fun b ρ1 => P (!b) ρ1 := by
  unfold cNot
  simp only [okM_bnd, okM_ret]
@[simp] theorem okM_cAnd {f g : M Bool} {P : Bool → Rho → Prop} : okM (cAnd f g ρ) P ↔ okM (f ρ) fun b ρ1 => if b = true then okM (g ρ1) P else P false ρ1 := by
  unfold cAnd
  simp only [okM_bnd]
  have e : ∀ (k : Bool) (ρ2 : Rho), okM ((if k = true then g else ret false) ρ2) P ↔ if k = true then okM (g ρ2) P else P false ρ2 := fun k ρ2 => by cases k <;> simp
  simp only [e]
@[simp] theorem okM_cOr {f g : M Bool} {P : Bool → Rho → Prop} : okM (cOr f g ρ) P ↔ okM (f ρ) fun b ρ1 => if b = true then P true ρ1 else okM (g ρ1) P := by
  unfold cOr
  simp only [okM_bnd]
  have e : ∀ (k : Bool) (ρ2 : Rho), okM ((if k = true then ret true else g) ρ2) P ↔ if k = true then P true ρ2 else okM (g ρ2) P := fun k ρ2 => by cases k <;> simp
  simp only [e]
@[simp] theorem okM_cAndV {f g : M Rv} {P : Rv → Rho → Prop} : okM (cAndV f g ρ) P ↔ okM (f ρ) fun x ρ1 => okO (asB ρ1 x) fun b => if b = true then okM (g ρ1) P else P (.d (.bool false)) ρ1 := by
  unfold cAndV
  simp only [okM_bnd, okM_cTest]
  have e : ∀ (k : Bool) (ρ2 : Rho), okM ((if k = true then g else ret (.d (.bool false))) ρ2) P ↔ if k = true then okM (g ρ2) P else P (.d (.bool false)) ρ2 := fun k ρ2 => by cases k <;> simp
  simp only [e]
@[simp] theorem okM_cOrV {f g : M Rv} {P : Rv → Rho → Prop} : okM (cOrV f g ρ) P ↔ okM (f ρ) fun x ρ1 => okO (asB ρ1 x) fun b => if b = true then P (.d (.bool true)) ρ1 else okM (g ρ1) P := by
  unfold cOrV
  simp only [okM_bnd, okM_cTest]
  have e : ∀ (k : Bool) (ρ2 : Rho), okM ((if k = true then ret (.d (.bool true)) else g) ρ2) P ↔ if k = true then P (.d (.bool true)) ρ2 else okM (g ρ2) P := fun k ρ2 => by cases k <;> simp
  simp only [e]
@[simp] theorem okM_cNotV {f : M Rv} {P : Rv → Rho → Prop} : okM (cNotV f ρ) P ↔ okM (f ρ) fun x ρ1 => okO (asB ρ1 x) fun b => P (.d (.bool (!b))) ρ1 := by
  unfold cNotV
  simp only [okM_bnd, okM_cTest, okM_ret]
@[simp] theorem okM_cIf {c : M Bool} {f g : M α} {P : α → Rho → Prop} : okM (cIf c f g ρ) P ↔ okM (c ρ) fun b ρ1 => if b = true then okM (f ρ1) P else okM (g ρ1) P := by
  unfold cIf
  simp only [okM_bnd]
  have e : ∀ (k : Bool) (ρ2 : Rho), okM ((if k = true then f else g) ρ2) P ↔ if k = true then okM (f ρ2) P else okM (g ρ2) P := fun k ρ2 => by cases k <;> simp
  simp only [e]
@[simp] theorem okM_aNil {P : List Rv → Rho → Prop} : okM (aNil ρ) P ↔ P [] ρ := okM_ok
@[simp] theorem okM_aCons {f : M Rv} {g : M (List Rv)} {P : List Rv → Rho → Prop} : okM (aCons f g ρ) P ↔ okM (f ρ) fun x ρ1 => okM (g ρ1) fun xs ρ2 => P (x :: xs) ρ2 := by
  unfold aCons
  simp only [okM_bnd, okM_ret]
@[simp] theorem okM_mkTup {rs : List Rv} {P : Rv → Rho → Prop} : okM (mkTup rs ρ) P ↔ okO (datas rs) fun ds => small ds.length = true ∧ P (.d (.tuple ds)) ρ := by
  unfold mkTup
  cases datas rs <;> simp
  split <;> simp_all
@[simp] theorem okM_cTup {f : M (List Rv)} {P : Rv → Rho → Prop} : okM (cTup f ρ) P ↔ okM (f ρ) fun rs ρ1 => okO (datas rs) fun ds => small ds.length = true ∧ P (.d (.tuple ds)) ρ1 := by
  unfold cTup
  simp only [okM_bnd, okM_mkTup]
@[simp] theorem okM_mkLst {rs : List Rv} {P : Tr → Rho → Prop} : okM (mkLst rs ρ) P ↔ okO (datas rs) fun ds => small ds.length = true ∧ P (.lst (ds.map .dat)) ρ := by
  unfold mkLst
  cases datas rs <;> simp
  split <;> simp_all
@[simp] theorem okM_nLst {f : M (List Rv)} {P : Tr → Rho → Prop} : okM (nLst f ρ) P ↔ okM (f ρ) fun rs ρ1 => okO (datas rs) fun ds => small ds.length = true ∧ P (.lst (ds.map .dat)) ρ1 := by
  unfold nLst
  simp only [okM_bnd, okM_mkLst]
@[simp] theorem okM_cFrz {f : M Tr} {P : Rv → Rho → Prop} : okM (cFrz f ρ) P ↔ okM (f ρ) fun t ρ1 => okO t.toD fun d => P (.d d) ρ1 := by
  unfold cFrz
  rw [okM_bnd]
  refine okM_congr fun t ρ1 => ?_
  cases t.toD <;> simp
noncomputable def rvd : Rv → Option PyData
  | .d d => some d
  | .o _ => none
@[simp] theorem rvd_d {d : PyData} : rvd (.d d) = some d := rfl
@[simp] theorem okM_nDat {f : M Rv} {P : Tr → Rho → Prop} : okM (nDat f ρ) P ↔ okM (f ρ) fun x ρ1 => okO (rvd x) fun d => P (.dat d) ρ1 := by
  unfold nDat
  rw [okM_bnd]
  refine okM_congr fun x ρ1 => ?_
  cases x <;> simp [rvd]
noncomputable def rvi : Rv → Option Int
  | .d (.int i) => some i
  | _ => none
@[simp] theorem rvi_d {i : Int} : rvi (.d (.int i)) = some i := rfl
@[simp] theorem okM_oNone {P : Option Int → Rho → Prop} : okM (oNone ρ) P ↔ P none ρ := okM_ok
@[simp] theorem okM_oSome {f : M Rv} {P : Option Int → Rho → Prop} : okM (oSome f ρ) P ↔ okM (f ρ) fun x ρ1 => okO (rvi x) fun i => P (some i) ρ1 := by
  unfold oSome
  rw [okM_bnd]
  refine okM_congr fun x ρ1 => ?_
  cases x with
  | o _ => simp [rvi]
  | d d => cases d <;> simp [rvi]
@[simp] theorem okM_cNeg {f : M Rv} {P : Rv → Rho → Prop} : okM (cNeg f ρ) P ↔ okM (f ρ) fun x ρ1 => okO (rvi x) fun i => P (.d (.int (-i))) ρ1 := by
  unfold cNeg
  rw [okM_bnd]
  refine okM_congr fun x ρ1 => ?_
  cases x with
  | o _ => simp [rvi]
  | d d => cases d <;> simp [rvi]
@[simp] theorem okM_cCut {f : M Rv} {fl fh : M (Option Int)} {P : Rv → Rho → Prop} : okM (cCut f fl fh ρ) P ↔ okM (f ρ) fun x ρ1 => okM (fl ρ1) fun lo ρ2 => okM (fh ρ2) fun hi ρ3 => okO (derS ρ3 x) fun d => okO (cutD d lo hi) fun z => P (.d z) ρ3 := by
  unfold cCut
  simp only [okM_bnd]
  have e : ∀ (x : Rv) (lo hi : Option Int) (ρ3 : Rho), okM (cut1 x lo hi ρ3) P ↔ okO (derS ρ3 x) fun d => okO (cutD d lo hi) fun z => P (.d z) ρ3 := fun x lo hi ρ3 => by
    unfold cut1
    cases derS ρ3 x <;> simp
    rename_i d
    cases cutD d lo hi <;> simp
  simp only [e]
@[simp] theorem okM_cCall {g : List PyData → Option PyData} {f : M (List Rv)} {P : Rv → Rho → Prop} : okM (cCall g f ρ) P ↔ okM (f ρ) fun rs ρ1 => okO (derSs ρ1 rs) fun ds => okO (g ds) fun z => P (.d z) ρ1 := by
  unfold cCall
  simp only [okM_bnd]
  have e : ∀ (rs : List Rv) (ρ3 : Rho), okM (call1 g rs ρ3) P ↔ okO (derSs ρ3 rs) fun ds => okO (g ds) fun z => P (.d z) ρ3 := fun rs ρ3 => by
    unfold call1
    cases derSs ρ3 rs <;> simp
    rename_i d
    cases g d <;> simp
  simp only [e]
@[simp] theorem okM_cIsi {B : BT} {f : M Rv} {P : Rv → Rho → Prop} : okM (cIsi B f ρ) P ↔ okM (f ρ) fun x ρ1 => okO (der ρ1 x) fun d => okO (isiD B d) fun b => P (.d (.bool b)) ρ1 := by
  unfold cIsi
  rw [okM_bnd]
  refine okM_congr fun x ρ1 => ?_
  cases der ρ1 x with
  | none => simp
  | some d => cases h : isiD B d <;> simp [h]
noncomputable def rvs : Rv → Option Str
  | .d (.str i) => some i
  | _ => none
@[simp] theorem rvs_d {i : Str} : rvs (.d (.str i)) = some i := rfl
@[simp] theorem okM_cTab {tb : List (Str × PyData)} {f : M Rv} {P : Rv → Rho → Prop} : okM (cTab tb f ρ) P ↔ okM (f ρ) fun x ρ1 => okO (rvs x) fun z => okO (tb.lookup z) fun d => P (.d d) ρ1 := by
  unfold cTab
  simp only [okM_bnd]
  have e : ∀ (x : Rv) (ρ1 : Rho), okM (tabD tb x ρ1) P ↔ okO (rvs x) fun z => okO (tb.lookup z) fun d => P (.d d) ρ1 := fun x ρ1 => by
    unfold tabD
    cases x with
    | o _ => simp [rvs]
    | d d =>
      cases d <;> simp [rvs]
      rename_i z
      cases tb.lookup z <;> simp
  simp only [e]
@[simp] theorem okM_callN {Ts : List Nat} {m : Nat} {F : Fn} {rs : List Rv} {P : Tr → Rho → Prop} : okM (callN Ts m F rs ρ) P ↔ okO (argSls ρ rs) fun args => (rs.length = m ∧ oneEach rs = true ∧ allIn Ts rs = true) ∧ okF (F args) fun t outs => backOk args (mrg args outs) = true ∧ P t (wb ρ rs (mrg args outs)) := by
  unfold callN
  cases argSls ρ rs with
  | none => simp
  | some args =>
    simp only [okO_some]
    constructor
    · rintro ⟨a, ρ1, e, h⟩
      split at e
      · rename_i hc
        simp only [Bool.and_eq_true, decide_eq_true_eq] at hc
        refine ⟨hc, ?_⟩
        split at e
        · rename_i t outs hf
          split at e
          · rename_i hb
            cases e
            exact ⟨_, _, hf, hb, h⟩
          · cases e
        · cases e
      · cases e
    · rintro ⟨hc, t, outs, hf, hb, h⟩
      refine ⟨t, _, ?_, h⟩
      rw [if_pos (by simp only [Bool.and_eq_true, decide_eq_true_eq]; exact hc), hf]
      simp only [hb, if_true]
@[simp] theorem okM_nCall {Ts : List Nat} {m : Nat} {F : Fn} {f : M (List Rv)} {P : Tr → Rho → Prop} : okM (nCall Ts m F f ρ) P ↔ okM (f ρ) fun rs ρ1 => okM (callN Ts m F rs ρ1) P := by
  unfold nCall
  simp only [okM_bnd]
noncomputable def rvx : Rv → Option (List PyData)
  | .d d => itemsOf d
  | .o _ => none
@[simp] theorem rvx_l {xs : List PyData} : rvx (.d (.list xs)) = some xs := rfl
@[simp] theorem rvx_t {xs : List PyData} : rvx (.d (.tuple xs)) = some xs := rfl
@[simp] theorem okM_iSeq {f : M Rv} {P : List PyData → Rho → Prop} : okM (iSeq f ρ) P ↔ okM (f ρ) fun x ρ1 => okO (rvx x) fun xs => P xs ρ1 := by
  unfold iSeq
  rw [okM_bnd]
  refine okM_congr fun x ρ1 => ?_
  cases x with
  | o _ => simp [rvx]
  | d d => cases h : itemsOf d <;> simp [rvx, h]
theorem okM_iRange1 {f : M (List Rv)} {P : List PyData → Rho → Prop} (h : okM (f ρ) fun rs ρ1 => ∃ j : Int, rs = [.d (.int j)] ∧ -(2 ^ 62) ≤ j ∧ j < 2 ^ 62 ∧ P (rangeD 0 j.toNat) ρ1) : okM (iRange1 f ρ) P := by
  unfold iRange1
  rw [okM_bnd]
  refine okM_mono h ?_
  rintro rs ρ1 ⟨j, rfl, h1, h2, p⟩
  simp only [h1, h2, and_self, if_true]
  exact okM_ok.mpr p
@[simp] theorem okS_nil {P : Out → Prop} : okS (sNil ρ) P ↔ P (.nx ρ) := okS_some
@[simp] theorem okS_retN {P : Out → Prop} : okS (sRetN ρ) P ↔ P (.rt (.dat .none) ρ) := okS_some
theorem okS_ret {f : M Tr} {P : Out → Prop} (h : okM (f ρ) fun t ρ1 => P (.rt t ρ1)) : okS (sRet f ρ) P := okS_E' (okM_mono h fun a ρ1 p => okS_some.mpr p)
theorem okS_putD {i : Nat} {d : PyData} {P : Out → Prop} : okS (putD i d ρ) P ↔ okR (setSl ρ i (.val d)) fun ρ1 => P (.nx ρ1) := by
  unfold putD
  cases setSl ρ i (.val d) <;> simp
theorem okS_set {i : Nat} {f : M Rv} {P : Out → Prop} (h : okM (f ρ) fun x ρ1 => okO (rvd x) fun d => okR (setSl ρ1 i (.val d)) fun ρ2 => P (.nx ρ2)) : okS (sSet i f ρ) P := by
  refine okS_E' (okM_mono h fun x ρ1 p => ?_)
  cases x with
  | d d =>
    simp only [rvd_d, okO_some] at p
    exact okS_putD.mpr p
  | o j => simp [rvd] at p
theorem okS_setN {i : Nat} {f : M Tr} {P : Out → Prop} (h : okM (f ρ) fun t ρ1 => okR (setSl ρ1 i (.own .free t)) fun ρ2 => P (.nx ρ2)) : okS (sSetN i f ρ) P := by
  refine okS_E' (okM_mono h fun t ρ1 p => ?_)
  obtain ⟨ρ2, e, p⟩ := p
  exact ⟨_, by rw [e]; rfl, p⟩
theorem okS_asg {G : MG} {f : M Rv} {P : Out → Prop} (h : okM (f ρ) fun x ρ1 => okO (rvd x) fun d => okR (G d ρ1) fun ρ2 => P (.nx ρ2)) : okS (sAsg G f ρ) P := by
  refine okS_E' (okM_mono h fun x ρ1 p => ?_)
  cases x with
  | d d =>
    simp only [rvd_d, okO_some] at p
    obtain ⟨ρ2, e, p⟩ := p
    exact ⟨_, by simp only [e, Option.map_some], p⟩
  | o j => simp [rvd] at p
theorem okS_if {c : M Bool} {g h : MS} {P : Out → Prop} (k : okM (c ρ) fun b ρ1 => if b = true then okS (g ρ1) P else okS (h ρ1) P) : okS (sIf c g h ρ) P := by
  refine okS_E' (okM_mono k fun b ρ1 p => ?_)
  cases b <;> simpa using p
noncomputable def turn (J : Rho → Prop) (P : Out → Prop) : Out → Prop
  | .nx ρ => J ρ
  | .ct ρ => J ρ
  | .bk ρ => P (.nx ρ)
  | .rt t ρ => P (.rt t ρ)
  | .ex c ρ => P (.ex c ρ)
@[simp] theorem turn_nx {J : Rho → Prop} {P : Out → Prop} : turn J P (.nx ρ) ↔ J ρ := Iff.rfl
@[simp] theorem turn_ct {J : Rho → Prop} {P : Out → Prop} : turn J P (.ct ρ) ↔ J ρ := Iff.rfl
@[simp] theorem turn_bk {J : Rho → Prop} {P : Out → Prop} : turn J P (.bk ρ) ↔ P (.nx ρ) := Iff.rfl
@[simp] theorem turn_rt {J : Rho → Prop} {P : Out → Prop} {t : Tr} : turn J P (.rt t ρ) ↔ P (.rt t ρ) := Iff.rfl
theorem okS_loop {G : MG} {body : MS} {P : Out → Prop} : ∀ (xs : List PyData) (J : Nat → Rho → Prop) (ρ : Rho), J 0 ρ → (∀ i x ρ, xs[i]? = some x → J i ρ → okR (G x ρ) fun ρ1 => okS (body ρ1) (turn (J (i + 1)) P)) → (∀ ρ, J xs.length ρ → P (.nx ρ)) → okS (loopF G body xs ρ) P
  | [], J, ρ, h0, _, hd => okS_some.mpr (hd ρ h0)
  | x :: xs, J, ρ, h0, hs, hd => by
    obtain ⟨ρ1, e1, o, e2, p⟩ := hs 0 x ρ rfl h0
    have again := okS_loop (G := G) (body := body) (P := P) xs (fun i => J (i + 1))
    have hs' : ∀ i y ρ, xs[i]? = some y → J (i + 1) ρ → okR (G y ρ) fun ρ1 => okS (body ρ1) (turn (J (i + 1 + 1)) P) := fun i y ρ hy hj => hs (i + 1) y ρ (by simpa using hy) hj
    have hd' : ∀ ρ, J (xs.length + 1) ρ → P (.nx ρ) := fun ρ h => hd ρ (by simpa using h)
    unfold loopF
    rw [e1]
    simp only
    rw [e2]
    cases o with
    | nx ρ2 => exact again ρ2 p hs' hd'
    | ct ρ2 => exact again ρ2 p hs' hd'
    | bk ρ2 => exact ⟨_, rfl, p⟩
    | rt t ρ2 => exact ⟨_, rfl, p⟩
    | ex c ρ2 => exact ⟨_, rfl, p⟩
theorem okS_for {fi : M (List PyData)} {G : MG} {body : MS} {P : Out → Prop} (J : Nat → Rho → Prop) {xs : List PyData} (h : okM (fi ρ) fun ys ρ1 => ys = xs ∧ J 0 ρ1) (hs : ∀ i x ρ, xs[i]? = some x → J i ρ → okR (G x ρ) fun ρ1 => okS (body ρ1) (turn (J (i + 1)) P)) (hd : ∀ ρ, J xs.length ρ → P (.nx ρ)) : okS (sFor fi G body ρ) P := by
  refine okS_E' (okM_mono h ?_)
  rintro ys ρ1 ⟨rfl, j⟩
  exact okS_loop _ J ρ1 j hs hd
theorem okF_run {n : Nat} {g : MS} {args : List Sl} {P : Tr → List Sl → Prop} (h : okS (g (entry n args)) fun o => match o with
    | .nx ρ' => P (.dat .none) (ρ'.take args.length)
    | .rt t ρ' => P t (ρ'.take args.length)
    | _ => False) : okF (runF n g args) P := by
  obtain ⟨o, e, p⟩ := h
  unfold runF
  rw [e]
  cases o with
  | nx ρ' => exact ⟨_, _, rfl, p⟩
  | rt t ρ' => exact ⟨_, _, rfl, p⟩
  | bk ρ' => exact p.elim
  | ct ρ' => exact p.elim
  | ex c ρ' => exact p.elim
end
end VL

end

section
set_option Elab.async false
set_option linter.all false
set_option maxRecDepth 100000
namespace VL
open PySem PySem.Spec PyProof.Rows L2
section
variable {α β : Type} {ρ : Rho} {P : Out → Prop}
theorem okO_map {f : α → β} {o : Option α} {Q : β → Prop} : okO (o.map f) Q ↔ okO o fun a => Q (f a) := by cases o <;> simp
@[simp] theorem okO_ite {c : Prop} [Decidable c] {a : α} {Q : α → Prop} : okO (if c then some a else none) Q ↔ c ∧ Q a := by
  by_cases h : c <;> simp [h]
@[simp] theorem okO_iteO {c : Prop} [Decidable c] {a : Option α} {Q : α → Prop} : okO (if c then a else none) Q ↔ c ∧ okO a Q := by
  by_cases h : c <;> simp [h]
theorem varS {i : Nat} : cVar i ρ = match ρ[i]? with
  | some (.val d) => some (.ok (.d d) ρ)
  | some (.own _ (.dat d)) => some (.ok (.d d) ρ)
  | some (.own _ _) => some (.ok (.o i) ρ)
  | _ => none := rfl
noncomputable def rdSl (i : Nat) (s : Option Sl) : Option Rv := match s with
  | some (.val d) => some (Rv.d d)
  | some (.own _ (.dat d)) => some (.d d)
  | some (.own _ _) => some (.o i)
  | _ => none
@[simp] theorem rdSl_val {i : Nat} {d : PyData} : rdSl i (some (.val d)) = some (.d d) := rfl
@[simp] theorem rdSl_dat {i : Nat} {m : Md} {d : PyData} : rdSl i (some (.own m (.dat d))) = some (.d d) := rfl
@[simp] theorem rdSl_lst {i : Nat} {m : Md} {ts : List Tr} : rdSl i (some (.own m (.lst ts))) = some (.o i) := rfl
@[simp] theorem rdSl_tup {i : Nat} {m : Md} {ts : List Tr} : rdSl i (some (.own m (.tup ts))) = some (.o i) := rfl
@[simp] theorem rdSl_dk {i : Nat} {m : Md} {ts : List (Key × Tr)} : rdSl i (some (.own m (.dk ts))) = some (.o i) := rfl
@[simp] theorem rdSl_dt {i : Nat} {m : Md} {ts : List (List Key × Tr)} : rdSl i (some (.own m (.dt ts))) = some (.o i) := rfl
@[simp] theorem okM_var_val {i : Nat} {Q : Rv → Rho → Prop} : okM (cVar i ρ) Q ↔ okO (rdSl i ρ[i]?) fun r => Q r ρ := by
  rw [varS]
  unfold rdSl
  split <;> simp
@[simp] theorem derS_d {d : PyData} : derS ρ (.d d) = some d := rfl
@[simp] theorem der_d {d : PyData} : der ρ (.d d) = some d := rfl
noncomputable def dsSl (s : Option Sl) : Option PyData := match s with
    | some (.own _ (.lst ts)) => (flat ts).map .list
    | _ => none
noncomputable def drSl (s : Option Sl) : Option PyData := match s with
    | some (.own _ t) => t.toD
    | _ => none
@[simp] theorem dsSl_lst {m : Md} {ts : List Tr} : dsSl (some (.own m (.lst ts))) = (flat ts).map .list := rfl
@[simp] theorem drSl_own {m : Md} {t : Tr} : drSl (some (.own m t)) = t.toD := rfl
@[simp] theorem derS_o {i : Nat} : derS ρ (.o i) = dsSl ρ[i]? := rfl
@[simp] theorem der_o {i : Nat} : der ρ (.o i) = drSl ρ[i]? := rfl
@[simp] theorem flat_nil : flat [] = some [] := rfl
@[simp] theorem flat_cons {d : PyData} {ts : List Tr} : flat (.dat d :: ts) = (flat ts).map (d :: ·) := rfl
@[simp] theorem flat_map {ds : List PyData} : flat (ds.map .dat) = some ds := flat_dat ds
@[simp] theorem toD_dat {d : PyData} : (Tr.dat d).toD = some d := by simp [Tr.toD]
@[simp] theorem toDs_map : ∀ {ds : List PyData}, Tr.toDs (ds.map .dat) = some ds
  | [] => by simp [Tr.toDs]
  | d :: ds => by simp [Tr.toDs, toDs_map (ds := ds)]
@[simp] theorem toDs_nil : Tr.toDs [] = some [] := by simp [Tr.toDs]
@[simp] theorem toDs_cons {d : PyData} {ts : List Tr} : Tr.toDs (.dat d :: ts) = (Tr.toDs ts).map (d :: ·) := by
  simp only [Tr.toDs, toD_dat]
  cases Tr.toDs ts <;> simp
@[simp] theorem toD_lst {ts : List Tr} : (Tr.lst ts).toD = (Tr.toDs ts).map .list := by simp [Tr.toD]
@[simp] theorem toD_tup {ts : List Tr} : (Tr.tup ts).toD = (Tr.toDs ts).map .tuple := by simp [Tr.toD]
@[simp] theorem asB_b {b : Bool} {r : Rv} (h : r = .d (.bool b)) : asB ρ r = some b := by rw [h]; rfl
@[simp] theorem datas_nil : datas [] = some [] := rfl
@[simp] theorem datas_cons {d : PyData} {rs : List Rv} : datas (.d d :: rs) = (datas rs).map (d :: ·) := rfl
theorem small_of {n : Nat} (h : n ≤ 16777216) : small n = true := small_iff.mpr (by rw [sizeLine_eq]; exact h)
@[simp] theorem small_lit {n : Nat} (h : n ≤ 16777216) : small n = true := small_of h
theorem lt_lim {i : Int} (h : -18446744073709551616 ≤ i) (h2 : i ≤ 18446744073709551616) : i.natAbs < lim := by
  have e : 18446744073709551616 < lim := by decide +kernel
  omega
@[simp] theorem addD_i {i j : Int} : addD (.int i) (.int j) = some (.int (i + j)) := rfl
@[simp] theorem subtD_i {i j : Int} : subtD (.int i) (.int j) = some (.int (i - j)) := rfl
theorem mulD_i {i j : Int} : mulD (.int i) (.int j) = if i.natAbs < lim ∧ j.natAbs < lim then some (.int (i * j)) else none := rfl
@[simp] theorem okO_mulD {i j : Int} {Q : PyData → Prop} : okO (mulD (.int i) (.int j)) Q ↔ (i.natAbs < lim ∧ j.natAbs < lim) ∧ Q (.int (i * j)) := by rw [mulD_i, okO_ite]
@[simp] theorem okO_modD {i j : Int} {Q : PyData → Prop} : okO (modD (.int i) (.int j)) Q ↔ 0 < j ∧ Q (.int (i % j)) := by
  show okO (if 0 < j then some (.int (i % j)) else none) Q ↔ _
  rw [okO_ite]
@[simp] theorem okO_fdivD {i j : Int} {Q : PyData → Prop} : okO (fdivD (.int i) (.int j)) Q ↔ (0 < j ∧ j.natAbs < lim) ∧ Q (.int (i / j)) := by
  show okO (if 0 < j ∧ j.natAbs < lim then some (.int (i / j)) else none) Q ↔ _
  rw [okO_ite]
@[simp] theorem okO_powD {i j : Int} {Q : PyData → Prop} : okO (powD (.int i) (.int j)) Q ↔ (0 ≤ j ∧ j ≤ 1000 ∧ i.natAbs < 1000000) ∧ Q (.int (i ^ j.toNat)) := by
  show okO (if 0 ≤ j ∧ j ≤ 1000 ∧ i.natAbs < 1000000 then some (.int (i ^ j.toNat)) else none) Q ↔ _
  rw [okO_ite]
@[simp] theorem icmp_i {p : Int → Int → Bool} {i j : Int} : icmp p (.int i) (.int j) = some (p i j) := rfl
@[simp] theorem addD_t {xs ys : List PyData} {Q : PyData → Prop} : okO (addD (.tuple xs) (.tuple ys)) Q ↔ small (xs.length + ys.length) = true ∧ Q (.tuple (xs ++ ys)) := by
  show okO (if small (xs.length + ys.length) then some (.tuple (xs ++ ys)) else none) Q ↔ _
  rw [okO_ite]
@[simp] theorem addD_l {xs ys : List PyData} {Q : PyData → Prop} : okO (addD (.list xs) (.list ys)) Q ↔ small (xs.length + ys.length) = true ∧ Q (.list (xs ++ ys)) := by
  show okO (if small (xs.length + ys.length) then some (.list (xs ++ ys)) else none) Q ↔ _
  rw [okO_ite]
@[simp] theorem subD_l {xs : List PyData} {i : Int} : subD (.list xs) (.int i) = atI xs i := rfl
@[simp] theorem subD_t {xs : List PyData} {i : Int} : subD (.tuple xs) (.int i) = atI xs i := rfl
@[simp] theorem subD_s {xs : List Int} {i : Int} : subD (scrD xs) (.int i) = (atI xs i).map .int := by
  show (atI (xs.map fun i => (PyData.int i, PyData.none)) i).map (·.1) = _
  rw [atI_map, Option.map_map]
  rfl
@[simp] theorem cutD_l {xs : List PyData} {lo hi : Option Int} : cutD (.list xs) lo hi = some (.list (cutL xs lo hi)) := rfl
@[simp] theorem cutD_t {xs : List PyData} {lo hi : Option Int} : cutD (.tuple xs) lo hi = some (.tuple (cutL xs lo hi)) := rfl
@[simp] theorem derSs_nil : derSs ρ [] = some [] := rfl
@[simp] theorem derSs_cons {r : Rv} {rs : List Rv} : derSs ρ (r :: rs) = match derS ρ r, derSs ρ rs with
  | some d, some ds => some (d :: ds)
  | _, _ => none := rfl
@[simp] theorem lenD_l {xs : List PyData} : lenD [.list xs] = some (.int xs.length) := rfl
@[simp] theorem lenD_t {xs : List PyData} : lenD [.tuple xs] = some (.int xs.length) := rfl
@[simp] theorem lenD_s {xs : List Int} : lenD [scrD xs] = some (.int xs.length) := by
  show some (PyData.int (xs.map fun i => (PyData.int i, PyData.none)).length) = _
  rw [List.length_map]
@[simp] theorem absD_i {i : Int} : absD [.int i] = some (.int (if i < 0 then -i else i)) := rfl
@[simp] theorem min2D_i {i j : Int} : min2D [.int i, .int j] = some (.int (if j < i then j else i)) := rfl
@[simp] theorem max2D_i {i j : Int} : max2D [.int i, .int j] = some (.int (if j > i then j else i)) := rfl
@[simp] theorem intD_i {i : Int} : intD [.int i] = some (.int i) := rfl
@[simp] theorem intD_b {b : Bool} : intD [.bool b] = some (.int (if b then 1 else 0)) := rfl
@[simp] theorem tupleD_l {xs : List PyData} : tupleD [.list xs] = some (.tuple xs) := rfl
@[simp] theorem tupleD_t {xs : List PyData} : tupleD [.tuple xs] = some (.tuple xs) := rfl
@[simp] theorem listD_l {xs : List PyData} : listD [.list xs] = some (.list xs) := rfl
@[simp] theorem listD_t {xs : List PyData} : listD [.tuple xs] = some (.list xs) := rfl
@[simp] theorem pinS_val {d : PyData} : pinS (.val d) = .val d := rfl
@[simp] theorem pinS_no : pinS .no = .no := rfl
@[simp] theorem pinS_free {t : Tr} : pinS (.own .free t) = .own .pin t := rfl
@[simp] theorem pinS_pin {t : Tr} : pinS (.own .pin t) = .own .pin t := rfl
@[simp] theorem pinS_lock {t : Tr} : pinS (.own .lock t) = .own .lock t := rfl
@[simp] theorem arg_free : Md.arg .free = .free := rfl
@[simp] theorem arg_pin : Md.arg .pin = .pin := rfl
@[simp] theorem arg_lock : Md.arg .lock = .lock := rfl
@[simp] theorem arg_bor {p : List Nat} : Md.arg (.bor p) = .lock := rfl
@[simp] theorem unb_free : Md.unb .free = .free := rfl
@[simp] theorem unb_pin : Md.unb .pin = .pin := rfl
@[simp] theorem unb_lock : Md.unb .lock = .lock := rfl
@[simp] theorem unb_bor {p : List Nat} : Md.unb (.bor p) = .pin := rfl
noncomputable def Md.ow : Md → Bool
  | .free => true
  | .pin => true
  | _ => false
@[simp] theorem ow_free : Md.ow .free = true := rfl
@[simp] theorem ow_pin : Md.ow .pin = true := rfl
theorem ow_arg : ∀ {m : Md}, m.ow = true → m.arg = m
  | .free, _ => rfl
  | .pin, _ => rfl
@[simp] theorem argSls_nil : argSls ρ [] = some [] := rfl
@[simp] theorem argSls_d {d : PyData} {rs : List Rv} : argSls ρ (.d d :: rs) = (argSls ρ rs).map (.val d :: ·) := by
  simp only [argSls, argSl]
  cases argSls ρ rs <;> rfl
@[simp] theorem argSls_o {i : Nat} {rs : List Rv} : argSls ρ (.o i :: rs) = match ρ[i]? with
    | some (.own m t) => (argSls ρ rs).map (.own m.arg t :: ·)
    | _ => none := by
  simp only [argSls, argSl]
  cases h : ρ[i]? with
  | none => rfl
  | some s => cases s <;> (try rfl); cases argSls ρ rs <;> rfl
@[simp] theorem oneEach_nil : oneEach [] = true := rfl
@[simp] theorem oneEach_d {d : PyData} {rs : List Rv} : oneEach (.d d :: rs) = oneEach rs := rfl
@[simp] theorem oneEach_o {j : Nat} {rs : List Rv} : oneEach (.o j :: rs) = ((posOf rs j).isNone && oneEach rs) := rfl
@[simp] theorem posOf_nil {i : Nat} : posOf [] i = none := rfl
@[simp] theorem posOf_d {d : PyData} {rs : List Rv} {i : Nat} : posOf (.d d :: rs) i = (posOf rs i).map (· + 1) := rfl
@[simp] theorem posOf_o {j : Nat} {rs : List Rv} {i : Nat} : posOf (.o j :: rs) i = if j = i then some 0 else (posOf rs i).map (· + 1) := rfl
@[simp] theorem allIn_nil {Ts : List Nat} : allIn Ts [] = true := rfl
@[simp] theorem allIn_d {Ts : List Nat} {d : PyData} {rs : List Rv} : allIn Ts (.d d :: rs) = allIn Ts rs := rfl
@[simp] theorem allIn_o {Ts : List Nat} {j : Nat} {rs : List Rv} : allIn Ts (.o j :: rs) = (Ts.contains j && allIn Ts rs) := rfl
@[simp] theorem mrg_nil {os : List Sl} : mrg [] os = [] := rfl
@[simp] theorem mrg_val {d : PyData} {as os : List Sl} : mrg (.val d :: as) os = .val d :: mrg as os.tail := rfl
@[simp] theorem mrg_own {m m' : Md} {t t' : Tr} {as os : List Sl} : mrg (.own m t :: as) (.own m' t' :: os) = .own m'.unb t' :: mrg as os := rfl
@[simp] theorem backOk_nil {os : List Sl} : backOk [] os = true := rfl
@[simp] theorem backOk_own {m m' : Md} {t t' : Tr} {as os : List Sl} : backOk (.own m t :: as) (.own m' t' :: os) = backOk as os := rfl
@[simp] theorem backOk_val {d : PyData} {s : Sl} {as os : List Sl} : backOk (.val d :: as) (s :: os) = backOk as os := rfl
@[simp] theorem wb_eq {rs : List Rv} {os : List Sl} : wb ρ rs os = wbGo rs os 0 ρ := rfl
@[simp] theorem wbGo_nil {rs : List Rv} {os : List Sl} {i : Nat} : wbGo rs os i [] = [] := rfl
@[simp] theorem wbGo_cons {rs : List Rv} {os : List Sl} {i : Nat} {s : Sl} : wbGo rs os i (s :: ρ) = (match posOf rs i with
    | some k => wb1 s os[k]?
    | none => s) :: wbGo rs os (i + 1) ρ := rfl
@[simp] theorem wb1_own {m m' : Md} {t t' : Tr} : wb1 (.own m t) (some (.own m' t')) = .own m t' := rfl
theorem wbGo_no {rs : List Rv} {os : List Sl} (h : ∀ i, posOf rs i = none) : ∀ {ρ : Rho} {i : Nat}, wbGo rs os i ρ = ρ
  | [], _ => rfl
  | s :: ρ, i => by rw [wbGo_cons, h, wbGo_no h]
noncomputable def frB : Option Sl → Bool
  | some (.own .pin _) => false
  | some (.own .lock _) => false
  | some (.own (.bor _) _) => false
  | some _ => true
  | none => false
@[simp] theorem frB_al {i : Nat} {p : List Nat} : frB (some (.al i p)) = true := rfl
@[simp] theorem frB_bor {p : List Nat} {t : Tr} : frB (some (.own (.bor p) t)) = false := rfl
@[simp] theorem frB_no : frB (some .no) = true := rfl
@[simp] theorem frB_val {d : PyData} : frB (some (.val d)) = true := rfl
@[simp] theorem frB_free {t : Tr} : frB (some (.own .free t)) = true := rfl
@[simp] theorem frB_pin {t : Tr} : frB (some (.own .pin t)) = false := rfl
@[simp] theorem frB_lock {t : Tr} : frB (some (.own .lock t)) = false := rfl
@[simp] theorem setSl_eq {i : Nat} {s : Sl} : setSl ρ i s = if frB ρ[i]? = true then some (ρ.set i s) else none := by
  unfold setSl
  cases h : ρ[i]? with
  | none => rfl
  | some x =>
    cases x with
    | no => rfl
    | al _ _ => rfl
    | val d => rfl
    | own m t => cases m <;> rfl
@[simp] theorem okR_ite {c : Prop} [Decidable c] {a : Rho} {Q : Rho → Prop} : okR (if c then some a else none) Q ↔ c ∧ Q a := by
  by_cases h : c <;> simp [h]
@[simp] theorem gN_eq {i : Nat} {d : PyData} : gN i d ρ = setSl ρ i (.val d) := rfl
@[simp] theorem gT_eq {n : Nat} {Gs : MGs} {ds : List PyData} : gT n Gs (.tuple ds) ρ = if ds.length = n then Gs ds ρ else none := rfl
@[simp] theorem gsN_eq : gsN [] ρ = some ρ := rfl
@[simp] theorem gsC_eq {G : MG} {Gs : MGs} {d : PyData} {r : List PyData} : gsC G Gs (d :: r) ρ = match G d ρ with
    | some ρ1 => Gs r ρ1
    | none => none := rfl
@[simp] theorem okM_pVar {i : Nat} {Q : Nat × List Nat → Rho → Prop} : okM (pVar i ρ) Q ↔ okO (match ρ[i]? with
  | some (.own _ _) => some (i, ([] : List Nat))
  | _ => none) fun r => Q r ρ := by
  unfold pVar
  cases h : ρ[i]? with
  | none => simp
  | some s => cases s <;> simp
@[simp] theorem treeAt_eq {i : Nat} {p : List Nat} : treeAt ρ (i, p) = match ρ[i]? with
  | some (.own _ t) => t.at p
  | _ => none := rfl
@[simp] theorem at_nil {t : Tr} : t.at [] = some t := by cases t <;> rfl
@[simp] theorem at_cons {t : Tr} {j : Nat} {p : List Nat} : t.at (j :: p) = match (kids t)[j]? with
    | some k => k.at p
    | none => none := by cases t <;> rfl
@[simp] theorem put_nil {t t' : Tr} : t.put [] t' = t' := by cases t <;> rfl
@[simp] theorem put_cons {t t' : Tr} {j : Nat} {p : List Nat} : t.put (j :: p) t' = match (kids t)[j]? with
    | some k => setKid t j (k.put p t')
    | none => t := by cases t <;> rfl
@[simp] theorem kids_lst {ts : List Tr} : kids (.lst ts) = ts := rfl
@[simp] theorem kids_tup {ts : List Tr} : kids (.tup ts) = ts := rfl
@[simp] theorem setKid_lst {ts : List Tr} {j : Nat} {t : Tr} : setKid (.lst ts) j t = .lst (ts.set j t) := rfl
@[simp] theorem modeOk_eq {i : Nat} : modeOk ρ i = match ρ[i]? with
  | some (.own m _) => m.ow
  | _ => false := by
  unfold modeOk
  cases ρ[i]? with
  | none => rfl
  | some s => cases s with
    | own m t => cases m <;> rfl
    | _ => rfl
@[simp] theorem putAt_eq {i : Nat} {p : List Nat} {t' : Tr} : putAt ρ (i, p) t' = match ρ[i]? with
  | some (.own m t) => ρ.set i (.own m (t.put p t'))
  | _ => ρ := rfl
@[simp] theorem isLst_l {ts : List Tr} : isLst (some (.lst ts)) = true := rfl
@[simp] theorem okM_cLeaf {f : M (Nat × List Nat)} {Q : Rv → Rho → Prop} : okM (cLeaf f ρ) Q ↔ okM (f ρ) fun r ρ1 => okO (match treeAt ρ1 r with
  | some (.dat d) => some (Rv.d d)
  | _ => none) fun x => Q x ρ1 := by
  unfold cLeaf
  rw [okM_bnd]
  refine okM_congr fun r ρ1 => ?_
  split <;> simp_all
@[simp] theorem okM_cRev {f : M Rv} {Q : Rv → Rho → Prop} : okM (cRev f ρ) Q ↔ okM (f ρ) fun x ρ1 => okO (match x with
  | .d (.tuple ds) => some (Rv.d (.tuple ds.reverse))
  | _ => none) fun y => Q y ρ1 := by
  unfold cRev
  rw [okM_bnd]
  refine okM_congr fun x ρ1 => ?_
  unfold rev1
  split <;> simp_all
@[simp] theorem okM_cCnt {fo fe : M Rv} {Q : Rv → Rho → Prop} : okM (cCnt fo fe ρ) Q ↔ okM (fo ρ) fun x ρ1 => okO (match x with
  | .d (.list ds) => some ds
  | _ => none) fun ds => okM (fe ρ1) fun y ρ2 => okO (rvd y) fun e => (flatD e && ds.all flatD) = true ∧ Q (.d (.int (ds.countP (fun z => PyData.eqv z e) : Nat))) ρ2 := by
  unfold cCnt
  rw [okM_bnd]
  refine okM_congr fun x ρ1 => ?_
  split
  · rename_i ds
    simp only [okO_some]
    rw [okM_bnd]
    refine okM_congr fun y ρ2 => ?_
    unfold cCnt1
    cases y with
    | o i => simp [rvd]
    | d e =>
      simp only [rvd_d, okO_some]
      by_cases h : (flatD e && ds.all flatD) = true
      · rw [if_pos h]
        simp [h]
      · rw [if_neg h]
        simp [h]
  · simp_all
@[simp] theorem okM_cDIn {neg : Bool} {fk : M Rv} {f : M (Nat × List Nat)} {Q : Bool → Rho → Prop} : okM (cDIn neg fk f ρ) Q ↔ okM (fk ρ) fun y ρ1 => okM (f ρ1) fun r ρ2 => okO (rvd y) fun d => okO (treeAt ρ2 r) fun t => okO (dictAt t d) fun z => Q (if neg then !z.isSome else z.isSome) ρ2 := by
  unfold cDIn
  rw [okM_bnd]
  refine okM_congr fun y ρ1 => ?_
  rw [okM_bnd]
  refine okM_congr fun r ρ2 => ?_
  unfold dIn1
  cases y with
  | o i => simp [rvd]
  | d d =>
    cases h : treeAt ρ2 r with
    | none => simp
    | some t =>
      simp only [rvd_d, okO_some]
      cases h2 : dictAt t d <;> simp
@[simp] theorem okM_cDGet {T2 : List Nat} {f : M (Nat × List Nat)} {fk : M Rv} {Q : Rv → Rho → Prop} : okM (cDGet T2 f fk ρ) Q ↔ okM (f ρ) fun r ρ1 => okM (fk ρ1) fun y ρ2 => T2.contains r.1 = false ∧ okO (rvd y) fun d => okO (treeAt ρ2 r) fun t => okO (dictAt t d) fun z => okO z fun z => Q (.d z) ρ2 := by
  unfold cDGet
  rw [okM_bnd]
  refine okM_congr fun r ρ1 => ?_
  rw [okM_bnd]
  refine okM_congr fun y ρ2 => ?_
  unfold dGet1
  by_cases hc : T2.contains r.1 = true
  · rw [if_pos hc, hc]
    simp
  · have hc' : T2.contains r.1 = false := by simpa using hc
    rw [if_neg hc]
    simp only [hc', true_and]
    cases y with
    | o i => simp [rvd]
    | d d =>
      cases h : treeAt ρ2 r with
      | none => simp
      | some t =>
        simp only [rvd_d, okO_some]
        cases h2 : dictAt t d with
        | none => simp
        | some z => cases z <;> simp
@[simp] theorem okM_cDGet2 {T2 : List Nat} {f : M (Nat × List Nat)} {fk fx : M Rv} {Q : Rv → Rho → Prop} : okM (cDGet2 T2 f fk fx ρ) Q ↔ okM (f ρ) fun r ρ1 => isDk (treeAt ρ1 r) = true ∧ okM (fk ρ1) fun y ρ2 => okM (fx ρ2) fun x ρ3 => T2.contains r.1 = false ∧ okO (rvd y) fun d => okO (rvd x) fun u => okO (treeAt ρ3 r) fun t => okO (dictAt t d) fun z => Q (.d (z.getD u)) ρ3 := by
  unfold cDGet2
  rw [okM_bnd]
  refine okM_congr fun r ρ1 => ?_
  by_cases hd : isDk (treeAt ρ1 r) = true
  · rw [if_pos hd]
    simp only [hd, true_and]
    rw [okM_bnd]
    refine okM_congr fun y ρ2 => ?_
    rw [okM_bnd]
    refine okM_congr fun x ρ3 => ?_
    unfold dGet2
    by_cases hc : T2.contains r.1 = true
    · rw [if_pos hc, hc]
      simp
    · have hc' : T2.contains r.1 = false := by simpa using hc
      rw [if_neg hc]
      simp only [hc', true_and]
      cases y with
      | o i => simp [rvd]
      | d d =>
        cases x with
        | o i => simp [rvd]
        | d u =>
          cases h : treeAt ρ3 r with
          | none => simp
          | some t =>
            simp only [rvd_d, okO_some]
            cases h2 : dictAt t d <;> simp
  · rw [if_neg hd]
    simp [hd]
@[simp] theorem okM_nNew {t : Tr} {Q : Tr → Rho → Prop} : okM (nNew t ρ) Q ↔ Q t ρ := okM_ok
theorem okS_app {T2 : List Nat} {f : M (Nat × List Nat)} {g : M Tr} (h : okM (f ρ) fun r ρ1 => isLst (treeAt ρ1 r) = true ∧ okM (g ρ1) fun t ρ2 => (T2.contains r.1 = false ∧ modeOk ρ2 r.1 = true) ∧ ∃ ts, treeAt ρ2 r = some (.lst ts) ∧ small (ts.length + 1) = true ∧ P (.nx (putAt ρ2 r (.lst (ts ++ [t]))))) : okS (sApp T2 f g ρ) P := by
  refine okS_E' (okM_mono h fun r ρ1 p => ?_)
  rw [if_pos p.1]
  refine okS_E' (okM_mono p.2 fun t ρ2 p => ?_)
  obtain ⟨⟨p1, p2⟩, ts, p3, p4, p5⟩ := p
  unfold app1
  simp only [p1, p2, p3, p4, Bool.not_true, Bool.or_false, Bool.false_eq_true, if_false, if_true]
  exact okS_some.mpr p5
theorem okS_setIx {T2 : List Nat} {fe fi : M Rv} {f : M (Nat × List Nat)} (h : okM (fe ρ) fun x ρ1 => okO (rvd x) fun d => okM (f ρ1) fun r ρ2 => okM (fi ρ2) fun y ρ3 => (T2.contains r.1 = false ∧ modeOk ρ3 r.1 = true) ∧ okO (rvi y) fun n => ∃ ts, treeAt ρ3 r = some (.lst ts) ∧ okO (ixN ts.length n) fun j => P (.nx (putAt ρ3 r (.lst (ts.set j (.dat d)))))) : okS (sSetIx T2 fe f fi ρ) P := by
  refine okS_E' (okM_mono h fun x ρ1 p => ?_)
  cases x with
  | o i => simp [rvd] at p
  | d d =>
    simp only [rvd_d, okO_some] at p
    refine okS_E' (okM_mono p fun r ρ2 p => ?_)
    refine okS_E' (okM_mono p fun y ρ3 p => ?_)
    obtain ⟨⟨p1, p2⟩, n, hn, ts, p3, j, p4, p5⟩ := p
    unfold setIx1
    simp only [p1, p2, Bool.not_true, Bool.or_false, Bool.false_eq_true, if_false]
    rw [p3]
    have hy : y = .d (.int n) := by
      cases y with
      | o _ => cases hn
      | d y => cases y <;> cases hn; rfl
    subst hy
    simp only [p4]
    exact okS_some.mpr p5
@[simp] theorem okS_retV {i : Nat} : okS (sRetV i ρ) P ↔ okO (match ρ[i]? with
  | some (.val d) => some (Out.rt (.dat d) ρ)
  | some (.own .free t) => some (.rt t (ρ.set i .no))
  | _ => none) P := Iff.rfl
theorem okS_aug {i : Nat} {f : Int → Int → Int} {fa : M Rv} {a : Int} (hi : ρ[i]? = some (.val (.int a)) ∨ ∃ m, ρ[i]? = some (.own m (.dat (.int a)))) (h : okM (fa ρ) fun y ρ1 => okO (rvi y) fun b => okR (setSl ρ1 i (.val (.int (f a b)))) fun ρ2 => P (.nx ρ2)) : okS (sAug i f fa ρ) P := by
  unfold sAug
  have go : okS (sE fa (augI i f a) ρ) P := by
    refine okS_E' (okM_mono h fun y ρ1 p => ?_)
    obtain ⟨b, hb, p⟩ := p
    have hy : y = .d (.int b) := by
      cases y with
      | o _ => cases hb
      | d y => cases y <;> cases hb; rfl
    subst hy
    exact okS_putD.mpr p
  rcases hi with e | ⟨m, e⟩ <;> rw [e] <;> exact go
@[simp] theorem okS_bk : okS (sBk ρ) P ↔ P (.bk ρ) := okS_some
@[simp] theorem okS_ct : okS (sCt ρ) P ↔ P (.ct ρ) := okS_some
@[simp] theorem frzSl_eq {i : Nat} : frzSl ρ i = match ρ[i]? with
  | some (.own .free t) => (t.toD).map fun d => ρ.set i (.val d)
  | some (.val _) => some ρ
  | _ => none := rfl
@[simp] theorem okM_iEnumD {f : M (List Rv)} {Q : List PyData → Rho → Prop} : okM (iEnumD f ρ) Q ↔ okM (f ρ) fun rs ρ1 => okO (match rs with
  | [.d (.list xs)] => some (enumD xs)
  | [.d (.tuple xs)] => some (enumD xs)
  | _ => none) fun xs => Q xs ρ1 := by
  unfold iEnumD
  rw [okM_bnd]
  refine okM_congr fun rs ρ1 => ?_
  split <;> simp
@[simp] theorem okM_iZipD {f : M (List Rv)} {Q : List PyData → Rho → Prop} : okM (iZipD f ρ) Q ↔ okM (f ρ) fun rs ρ1 => okO (match rs with
  | [.d (.list xs), .d (.list ys)] => some (zipD xs ys)
  | [.d (.tuple xs), .d (.tuple ys)] => some (zipD xs ys)
  | _ => none) fun xs => Q xs ρ1 := by
  unfold iZipD
  rw [okM_bnd]
  refine okM_congr fun rs ρ1 => ?_
  split <;> simp
theorem okM_comp {fi : M (List PyData)} {vs : List Nat} {G : MG} {tt : M Bool} {te : M Rv} {Q : Tr → Rho → Prop} (h : okM (fi ρ) fun xs ρ1 => noOwn ρ1 vs = true ∧ okO (compGo vs G tt te xs [] (wipeR ρ1 vs)) fun p => noOwn p.2 vs = true ∧ Q (.lst (p.1.map .dat)) (restR ρ1 p.2 vs)) : okM (nComp fi vs G tt te ρ) Q := by
  unfold nComp
  rw [okM_bnd]
  refine okM_mono h fun xs ρ1 p => ?_
  obtain ⟨p1, ⟨ds, ρ2⟩, e, p2, p3⟩ := p
  unfold comp1
  rw [if_pos p1, e]
  simp only [p2, if_true]
  exact okM_ok.mpr p3
@[simp] theorem noOwn_nil : noOwn ρ [] = true := rfl
@[simp] theorem noOwn_cons {i : Nat} {vs : List Nat} : noOwn ρ (i :: vs) = ((match ρ[i]? with
    | some (.own _ _) => false
    | some (.al _ _) => false
    | _ => true) && noOwn ρ vs) := rfl
@[simp] theorem wipeR_nil : wipeR ρ [] = ρ := rfl
@[simp] theorem wipeR_cons {i : Nat} {vs : List Nat} : wipeR ρ (i :: vs) = (wipeR ρ vs).set i .no := rfl
@[simp] theorem restR_nil {ρ0 : Rho} : restR ρ0 ρ [] = ρ := rfl
@[simp] theorem restR_cons {ρ0 : Rho} {i : Nat} {vs : List Nat} : restR ρ0 ρ (i :: vs) = match ρ0[i]? with
    | some s => (restR ρ0 ρ vs).set i s
    | none => restR ρ0 ρ vs := rfl
@[simp] theorem okM_tYes {Q : Bool → Rho → Prop} : okM (tYesM ρ) Q ↔ Q true ρ := okM_ok
theorem okS_loopW {c : M Bool} {body : MS} (J : Nat → Rho → Prop) (hs : ∀ k ρ, J k ρ → okM (c ρ) fun b ρ1 => if b = true then ∃ k', k = k' + 1 ∧ okS (body ρ1) (turn (J k') P) else P (.nx ρ1)) : ∀ (n k : Nat) (ρ : Rho), k < n → J k ρ → okS (loopW c body n ρ) P
  | 0, _, _, h, _ => absurd h (Nat.not_lt_zero _)
  | n + 1, k, ρ, hk, hj => by
    obtain ⟨b, ρ1, e, p⟩ := hs k ρ hj
    unfold loopW
    rw [e]
    cases b with
    | false => exact okS_some.mpr (by simpa using p)
    | true =>
      obtain ⟨k', rfl, o, e2, q⟩ := (by simpa using p : ∃ k', k = k' + 1 ∧ okS (body ρ1) (turn (J k') P))
      simp only
      rw [e2]
      cases o with
      | nx ρ2 => exact okS_loopW J hs n k' ρ2 (by omega) q
      | ct ρ2 => exact okS_loopW J hs n k' ρ2 (by omega) q
      | bk ρ2 => exact okS_some.mpr q
      | rt t ρ2 => exact okS_some.mpr q
      | ex t ρ2 => exact okS_some.mpr q
theorem okS_while {n : Nat} {c : M Bool} {body : MS} (J : Nat → Rho → Prop) (k : Nat) (hk : k < n) (h0 : J k ρ) (hs : ∀ k ρ, J k ρ → okM (c ρ) fun b ρ1 => if b = true then ∃ k', k = k' + 1 ∧ okS (body ρ1) (turn (J k') P) else P (.nx ρ1)) : okS (sWhile n c body ρ) P := okS_loopW J hs n k ρ hk h0
@[simp] theorem okM_cListZip {f : M (List Rv)} {Q : Rv → Rho → Prop} : okM (cListZip f ρ) Q ↔ okM (f ρ) fun rs ρ1 => okM (lzip1 rs ρ1) Q := by
  unfold cListZip
  rw [okM_bnd]
@[simp] theorem okM_lzip1 {x y : Rv} {Q : Rv → Rho → Prop} : okM (lzip1 [x, y] ρ) Q ↔ ∃ ds es, derS ρ x = some (.list ds) ∧ derS ρ y = some (.list es) ∧ ds.length = es.length ∧ Q (.d (.list (zipP ds es))) ρ := by
  unfold lzip1
  simp only
  constructor
  · intro h
    split at h
    · rename_i ds es h1 h2
      split at h
      · rename_i hl
        exact ⟨ds, es, h1, h2, hl, okM_ok.mp h⟩
      · exact (okM_none.mp h).elim
    · exact (okM_none.mp h).elim
  · rintro ⟨ds, es, h1, h2, hl, q⟩
    simp only [h1, h2, hl, if_true]
    exact okM_ok.mpr q
@[simp] theorem okM_nRep {fa fb : M Rv} {Q : Tr → Rho → Prop} : okM (nRep fa fb ρ) Q ↔ okM (fa ρ) fun x ρ1 => okM (fb ρ1) fun y ρ2 => okM (rep1 x y ρ2) Q := by
  unfold nRep
  simp only [okM_bnd]
@[simp] theorem okM_rep1 {ds : List PyData} {k : Int} {Q : Tr → Rho → Prop} : okM (rep1 (.d (.list ds)) (.d (.int k)) ρ) Q ↔ repOk ds k = true ∧ Q (.lst ((repL ds k).map .dat)) ρ := by
  unfold rep1
  simp only [derS_d]
  by_cases h : repOk ds k = true
  · rw [if_pos h]; simp [h]
  · rw [if_neg h]; simp [h]
@[simp] theorem okO_repD {ds : List PyData} {k : Int} {Q : PyData → Prop} : okO (repD (.list ds) (.int k)) Q ↔ repOk ds k = true ∧ Q (.list (repL ds k)) := by
  show okO (if repOk ds k then some (.list (repL ds k)) else none) Q ↔ _
  rw [okO_ite]
@[simp] theorem okO_sortedD {ds : List PyData} {Q : PyData → Prop} : okO (sortedD [.list ds]) Q ↔ sortOk ds = true ∧ Q (.list (sortL ds)) := by
  show okO (if sortOk ds then some (.list (sortL ds)) else none) Q ↔ _
  rw [okO_ite]
@[simp] theorem okO_sumD {ds : List PyData} {Q : PyData → Prop} : okO (sumD [.list ds]) Q ↔ okO (intsD ds) fun ns => Q (.int ns.sum) := by
  show okO ((intsD ds).map fun ns => .int ns.sum) Q ↔ _
  rw [okO_map]
@[simp] theorem intsD_map {ns : List Int} : intsD (ns.map .int) = some ns := by
  induction ns with
  | nil => rfl
  | cons n ns ih => simp [intsD, ih]
theorem okS_augIx {T2 T3 : List Nat} {f : Int → Int → Int} {fo : M (Nat × List Nat)} {fi fe : M Rv} (h : okM (fo ρ) fun r ρ1 => okM (fi ρ1) fun y ρ2 => okS (aug1 T2 T3 f r fe y ρ2) P) : okS (sAugIx T2 T3 f fo fi fe ρ) P :=
  okS_E' (okM_mono h fun r ρ1 p => okS_E' (okM_mono p fun y ρ2 q => q))
theorem okS_aug1 {T2 T3 : List Nat} {f : Int → Int → Int} {r : Nat × List Nat} {fe : M Rv} {n : Int} {ds : List PyData} {j : Int} (hT : T2.contains r.1 = false) (ht : treeAt ρ r = some (.lst (ds.map .dat))) (h0 : 0 ≤ n) (hj : ds[n.toNat]? = some (.int j))
    (h : okM (fe ρ) fun y ρ1 => okO (rvi y) fun k => (T3.contains r.1 = false ∧ modeOk ρ1 r.1 = true) ∧ P (.nx (putAt ρ1 r (.lst ((ds.set n.toNat (.int (f j k))).map .dat))))) : okS (aug1 T2 T3 f r fe (.d (.int n)) ρ) P := by
  unfold aug1
  simp only [hT, Bool.false_eq_true, if_false, ht, flat_map]
  rw [if_pos h0]
  simp only [hj]
  refine okS_E' (okM_mono h fun y ρ1 p => ?_)
  obtain ⟨k, hk, ⟨p1, p2⟩, p3⟩ := p
  have hy : y = .d (.int k) := by
    cases y with
    | o _ => cases hk
    | d y => cases y <;> cases hk; rfl
  subst hy
  unfold aug2
  simp only [p1, p2, Bool.not_true, Bool.or_false, Bool.false_eq_true, if_false]
  exact okS_some.mpr p3
@[simp] theorem okM_iOwn {i : Nat} {Q : List PyData → Rho → Prop} : okM (iOwn i ρ) Q ↔ okO (match ρ[i]? with
  | some (.own _ (.lst ts)) => flat ts
  | _ => none) fun xs => Q xs ρ := by
  unfold iOwn
  cases h : ρ[i]? with
  | none => simp
  | some s =>
    cases s with
    | no => simp
    | al _ _ => simp
    | val d => simp
    | own m t =>
      cases t with
      | lst ts => cases hf : flat ts <;> simp [hf]
      | _ => simp
@[simp] theorem okM_nListZip {f : M (List Rv)} {Q : Tr → Rho → Prop} : okM (nListZip f ρ) Q ↔ okM (f ρ) fun rs ρ1 => okM (nzip1 rs ρ1) Q := by
  unfold nListZip
  rw [okM_bnd]
@[simp] theorem okM_nzip1 {x y : Rv} {Q : Tr → Rho → Prop} : okM (nzip1 [x, y] ρ) Q ↔ ∃ ds es, derS ρ x = some (.list ds) ∧ derS ρ y = some (.list es) ∧ ds.length = es.length ∧ Q (.lst ((zipP ds es).map .dat)) ρ := by
  unfold nzip1
  simp only
  constructor
  · intro h
    split at h
    · rename_i ds es h1 h2
      split at h
      · rename_i hl
        exact ⟨ds, es, h1, h2, hl, okM_ok.mp h⟩
      · exact (okM_none.mp h).elim
    · exact (okM_none.mp h).elim
  · rintro ⟨ds, es, h1, h2, hl, q⟩
    simp only [h1, h2, hl, if_true]
    exact okM_ok.mpr q
@[simp] theorem okM_nCat {fa fb : M Rv} {Q : Tr → Rho → Prop} : okM (nCat fa fb ρ) Q ↔ okM (fa ρ) fun x ρ1 => okM (fb ρ1) fun y ρ2 => okM (cat1 x y ρ2) Q := by
  unfold nCat
  simp only [okM_bnd]
theorem okM_cat1 {x y : Rv} {as bs : List PyData} {Q : Tr → Rho → Prop} (hx : derS ρ x = some (.list as)) (hy : derS ρ y = some (.list bs)) (hl : as.length + bs.length ≤ 16777216) (k : Q (.lst ((as ++ bs).map .dat)) ρ) : okM (cat1 x y ρ) Q := by
  unfold cat1
  simp only [hx, hy, small_of hl, if_true]
  exact okM_ok.mpr k
@[simp] theorem okM_nDT {fk fv : M Rv} {Q : Tr → Rho → Prop} : okM (nDT fk fv ρ) Q ↔ okM (fk ρ) fun x ρ1 => okM (fv ρ1) fun y ρ2 => okM (mkDT x y ρ2) Q := by
  unfold nDT
  simp only [okM_bnd]
@[simp] theorem okM_nCallT {F : Fn} {g : M Tr} {Q : Tr → Rho → Prop} : okM (nCallT F g ρ) Q ↔ okM (g ρ) fun t ρ1 => okF (F [.own .free t]) fun r _ => Q r ρ1 := by
  unfold nCallT
  rw [okM_bnd]
  refine okM_congr fun t ρ1 => ?_
  unfold call1T
  constructor
  · intro h
    split at h
    · rename_i r outs e
      exact ⟨r, outs, e, okM_ok.mp h⟩
    · exact (okM_none.mp h).elim
  · rintro ⟨r, outs, e, h⟩
    rw [e]
    exact okM_ok.mpr h
@[simp] theorem rdSl_fk {i : Nat} {m : Md} {ts : List (Key × PyData)} : rdSl i (some (.own m (.fk ts))) = some (.o i) := rfl
@[simp] theorem okM_cSortDI {f : M (Nat × List Nat)} {Q : Rv → Rho → Prop} : okM (cSortDI f ρ) Q ↔ okM (f ρ) fun r ρ1 => okO (match treeAt ρ1 r with
  | some (.dk kvs) => intKeys kvs
  | _ => none) fun ks => Q (.d (.list ((sortI ks).map .int))) ρ1 := by
  unfold cSortDI
  rw [okM_bnd]
  refine okM_congr fun r ρ1 => ?_
  cases h : treeAt ρ1 r with
  | none => simp
  | some t =>
    cases t with
    | dk kvs =>
      simp only
      cases hk : intKeys kvs <;> simp
    | _ => simp
@[simp] theorem okO_maxTD {d : PyData} {ds : List PyData} {Q : PyData → Prop} : okO (maxTD [.list (d :: ds)]) Q ↔ maxOk (d :: ds) = true ∧ Q (PySem.W.maxD d ds) := by
  show okO (if maxOk (d :: ds) then some (PySem.W.maxD d ds) else none) Q ↔ _
  rw [okO_ite]
@[simp] theorem okM_tNilM {Q : List Tr → Rho → Prop} : okM (tNilM ρ) Q ↔ Q [] ρ := okM_ok
@[simp] theorem okM_tConsM {f : M Tr} {g : M (List Tr)} {Q : List Tr → Rho → Prop} : okM (tConsM f g ρ) Q ↔ okM (f ρ) fun t ρ1 => okM (g ρ1) fun ts ρ2 => Q (t :: ts) ρ2 := by
  unfold tConsM
  simp only [okM_bnd, okM_ret]
theorem okM_small {n : Nat} {t : Tr} {Q : Tr → Rho → Prop} : okM (if small n then some (Er.ok t ρ) else none) Q ↔ small n = true ∧ Q t ρ := by
  split <;> simp_all
@[simp] theorem okM_nTupT {f : M (List Tr)} {Q : Tr → Rho → Prop} : okM (nTupT f ρ) Q ↔ okM (f ρ) fun ts ρ1 => (small ts.length = true ∧ ts.any isNode = true) ∧ Q (.tup ts) ρ1 := by
  unfold nTupT
  simp only [okM_bnd]
  refine okM_congr fun ts ρ1 => ?_
  rw [← Bool.and_eq_true]
  split <;> simp_all
@[simp] theorem isNode_lst {ts : List Tr} : isNode (.lst ts) = true := rfl
@[simp] theorem isNode_tup {ts : List Tr} : isNode (.tup ts) = true := rfl
@[simp] theorem isNode_dat {d : PyData} : isNode (.dat d) = false := rfl
@[simp] theorem okM_nLstT {f : M (List Tr)} {Q : Tr → Rho → Prop} : okM (nLstT f ρ) Q ↔ okM (f ρ) fun ts ρ1 => small ts.length = true ∧ Q (.lst ts) ρ1 := by
  unfold nLstT
  simp only [okM_bnd, okM_small]
end
end VL

end

section
set_option Elab.async false
set_option linter.all false
set_option maxRecDepth 100000
namespace VL
open PySem PySem.Spec PyProof.Rows L2
structure Sh (n : Nat) (d : PyData) : Prop where
  c : d.canLay0 = true
  h : d.depth ≤ n
theorem Sh.mono {n m : Nat} {d : PyData} (h : Sh n d) (hm : n ≤ m) : Sh m d := ⟨h.c, Nat.le_trans h.h hm⟩
theorem Sh.int {i : Int} {n : Nat} : Sh n (.int i) := ⟨by simp [PyData.canLay0], by simp [PyData.depth]⟩
theorem Sh.bool {b : Bool} {n : Nat} : Sh n (.bool b) := ⟨by simp [PyData.canLay0], by simp [PyData.depth]⟩
theorem Sh.none {n : Nat} : Sh n .none := ⟨by simp [PyData.canLay0], by simp [PyData.depth]⟩
theorem Sh.str {s : Str} {n : Nat} (h : PyData.canLay0 (.str s) = true) : Sh n (.str s) := ⟨h, by simp [PyData.depth]⟩
theorem shAll {n : Nat} : ∀ {xs : List PyData}, (∀ x ∈ xs, Sh n x) → PyData.canLayAll0 xs = true ∧ PyData.depthAll xs ≤ n
  | [], _ => ⟨by simp [PyData.canLayAll0], by simp [PyData.depthAll]⟩
  | x :: xs, h => by
    obtain ⟨h1, h2⟩ := shAll (xs := xs) fun y hy => h y (List.mem_cons_of_mem _ hy)
    have h3 := h x List.mem_cons_self
    exact ⟨by simp [PyData.canLayAll0, h1, h3.c], by simp only [PyData.depthAll]; have := h3.h; omega⟩
theorem Sh.tuple {n : Nat} {xs : List PyData} (h : ∀ x ∈ xs, Sh n x) : Sh (n + 1) (.tuple xs) := ⟨by simp [PyData.canLay0, (shAll h).1], by simp [PyData.depth, (shAll h).2]⟩
theorem Sh.list {n : Nat} {xs : List PyData} (h : ∀ x ∈ xs, Sh n x) : Sh (n + 1) (.list xs) := ⟨by simp [PyData.canLay0, (shAll h).1], by simp [PyData.depth, (shAll h).2]⟩
theorem Sh.ok {n : Nat} {d : PyData} (h : Sh n d) (hn : n ≤ 64 := by omega) : SeqAt.shaped d = true := by
  unfold SeqAt.shaped
  rw [h.c, Bool.true_and]
  exact decide_eq_true (Nat.le_trans h.h hn)
@[simp] theorem shaped_int {i : Int} : SeqAt.shaped (.int i) = true := (Sh.int (n := 0)).ok
@[simp] theorem shaped_bool {i : Bool} : SeqAt.shaped (.bool i) = true := (Sh.bool (n := 0)).ok
@[simp] theorem shaped_none : SeqAt.shaped .none = true := (Sh.none (n := 0)).ok
theorem shaped_str {s : Str} (h : PyData.canLay0 (.str s) = true) : SeqAt.shaped (.str s) = true := (Sh.str (n := 0) h).ok
@[simp] theorem okO_eqD {d e : PyData} {Q : Bool → Prop} : okO (eqD d e) Q ↔ (SeqAt.shaped d && SeqAt.shaped e) = true ∧ Q (PyData.eqv d e) := by
  unfold eqD
  rw [okO_ite]
@[simp] theorem okO_neD {d e : PyData} {Q : Bool → Prop} : okO (neD d e) Q ↔ (SeqAt.shaped d && SeqAt.shaped e) = true ∧ Q (!PyData.eqv d e) := by
  unfold neD
  rw [okO_ite]
@[simp] theorem okO_inL {d : PyData} {ds : List PyData} {Q : Bool → Prop} : okO (inD d (.list ds)) Q ↔ (SeqAt.shaped d && SeqAt.shaped (.list ds)) = true ∧ Q (ds.any fun z => PyData.eqv z d) := by
  unfold inD
  rw [okO_ite]
@[simp] theorem okO_inT {d : PyData} {ds : List PyData} {Q : Bool → Prop} : okO (inD d (.tuple ds)) Q ↔ (flatD d && ds.all flatD) = true ∧ Q (ds.any fun z => PyData.eqv z d) := by
  unfold inD
  rw [okO_ite]
@[simp] theorem okO_notIn {d e : PyData} {Q : Bool → Prop} : okO (notInD d e) Q ↔ okO (inD d e) fun b => Q (!b) := by
  unfold notInD
  rw [okO_map]
theorem eqv_self {d : PyData} (h : SeqAt.shaped d = true) : PyData.eqv d d = true := SeqAt.eqv_refl d (SeqAt.canLay_of_shaped h)
@[simp] theorem eqv_ii {i j : Int} : PyData.eqv (.int i) (.int j) = (i == j) := by simp [PyData.eqv]
@[simp] theorem eqv_bb {i j : Bool} : PyData.eqv (.bool i) (.bool j) = (i == j) := by simp [PyData.eqv]
@[simp] theorem eqv_ss {i j : Str} : PyData.eqv (.str i) (.str j) = (i == j) := by simp [PyData.eqv]
@[simp] theorem isND_i {i : Int} : isND (.int i) .none = some false := rfl
@[simp] theorem isND_n : isND .none .none = some true := rfl
@[simp] theorem isND_s {i : Str} : isND (.str i) .none = some false := rfl
@[simp] theorem isND_b {i : Bool} : isND (.bool i) .none = some false := rfl
@[simp] theorem isND_t {i : List PyData} : isND (.tuple i) .none = some false := rfl
@[simp] theorem isND_l {i : List PyData} : isND (.list i) .none = some false := rfl
@[simp] theorem notND_eq {d e : PyData} : notND d e = (isND d e).map (!·) := rfl
@[simp] theorem isiD_i {B : BT} {i : Int} : isiD B (.int i) = some (match B with | .int => true | _ => false) := rfl
@[simp] theorem isiD_b {B : BT} {i : Bool} : isiD B (.bool i) = some (match B with | .int => true | .bool => true | _ => false) := rfl
@[simp] theorem isiD_s {B : BT} {i : Str} : isiD B (.str i) = some (match B with | .str => true | _ => false) := rfl
@[simp] theorem isiD_n {B : BT} : isiD B .none = some false := rfl
@[simp] theorem isiD_t {B : BT} {i : List PyData} : isiD B (.tuple i) = some (match B with | .tuple => true | _ => false) := rfl
@[simp] theorem isiD_l {B : BT} {i : List PyData} : isiD B (.list i) = some (match B with | .list => true | _ => false) := rfl
theorem rangeD_inv {lo : Int} {n i : Nat} {x : PyData} (h : (rangeD lo n)[i]? = some x) : i < n ∧ x = .int (lo + (i : Nat)) := by
  unfold rangeD at h
  rw [List.getElem?_map] at h
  by_cases hi : i < n
  · rw [List.getElem?_range hi] at h
    cases h
    exact ⟨hi, rfl⟩
  · rw [List.getElem?_eq_none (by simp; omega)] at h
    cases h
theorem rangeD_get0 {n i : Nat} {x : PyData} (h : (rangeD 0 n)[i]? = some x) : i < n ∧ x = .int (i : Nat) := by
  obtain ⟨h1, h2⟩ := rangeD_inv h
  exact ⟨h1, by rw [h2, Int.zero_add]⟩
mutual
noncomputable def sameB : PyData → PyData → Bool
  | .none, .none => true
  | .bool a, .bool b => a == b
  | .int a, .int b => a == b
  | .str a, .str b => decide (a = b)
  | .list a, .list b => sameBs a b
  | .tuple a, .tuple b => sameBs a b
  | _, _ => false
noncomputable def sameBs : List PyData → List PyData → Bool
  | [], [] => true
  | a :: as, b :: bs => sameB a b && sameBs as bs
  | _, _ => false
end
mutual
theorem sameB_ok : ∀ {a b : PyData}, sameB a b = true → a = b
  | .none, b, h => by cases b <;> simp [sameB] at h ⊢
  | .bool a, b, h => by cases b <;> simp [sameB] at h ⊢; exact h
  | .int a, b, h => by cases b <;> simp [sameB] at h ⊢; exact h
  | .str a, b, h => by cases b <;> simp [sameB] at h ⊢; exact h
  | .list a, b, h => by cases b <;> simp [sameB] at h ⊢; exact sameBs_ok h
  | .tuple a, b, h => by cases b <;> simp [sameB] at h ⊢; exact sameBs_ok h
  | .dict a, b, h => by cases b <;> simp [sameB] at h
theorem sameBs_ok : ∀ {a b : List PyData}, sameBs a b = true → a = b
  | [], b, h => by cases b <;> simp [sameBs] at h ⊢
  | a :: as, b, h => by
    cases b with
    | nil => simp [sameBs] at h
    | cons b bs =>
      simp only [sameBs, Bool.and_eq_true] at h
      rw [sameB_ok h.1, sameBs_ok h.2]
end
end VL

end

section
set_option Elab.async false
set_option linter.all false
set_option maxRecDepth 100000
namespace VL
open PySem PySem.Spec PyProof.Rows L2
noncomputable def gBag : MS := (sSeq (sSet 2 (cD (.int 0)))
  (sSeq (sIf (cCmp ltD (cVar 1) (cCall lenD (aCons (cVar 0) aNil))) (sSet 2 (cBin modD (cBin subD (cVar 0) (cVar 1)) (cBin mulD (cBin powD (cD (.int 10)) (cD (.int 60))) (cBin powD (cD (.int 10)) (cD (.int 60)))))) sNil)
  (sSeq (sIf (cCmp ltD (cVar 2) (cBin powD (cD (.int 10)) (cD (.int 18)))) (sRet (nLst (aCons (cD (.int 0)) (aCons (cBin addD (cD (.int 1)) (cBin modD (cBin addD (cBin mulD (cVar 2) (cD (.int 7919))) (cBin mulD (cD (.int 104729)) (cVar 1))) (cD (.int 2147483646)))) aNil)))) sNil)
  (sRet (nLst (aCons (cVar 2) (aCons (cBin addD (cD (.int 1)) (cBin modD (cBin addD (cVar 2) (cVar 1)) (cD (.int 2147483646)))) aNil)))))))
noncomputable def gTake : MS := (sSeq (sIf (cCmp gtD (cBin subD (cVar 0) (cD (.int 0))) (cD (.int 0))) (sSeq (sSet 2 (cBin modD (cBin subD (cVar 0) (cD (.int 0))) (cVar 1)))
  (sSeq (sSetIx [] (cBin fdivD (cBin subD (cVar 0) (cD (.int 0))) (cVar 1)) (pVar 0) (cD (.int 0)))
  (sRetV 2))) sNil)
  (sSeq (sSetIx [] (cBin modD (cBin mulD (cBin subD (cVar 0) (cD (.int 1))) (cD (.int 48271))) (cD (.int 2147483647))) (pVar 0) (cD (.int 1)))
  (sRet (nDat (cBin modD (cBin fdivD (cBin modD (cBin mulD (cBin subD (cVar 0) (cD (.int 1))) (cBin subD (cVar 0) (cD (.int 1)))) (cD (.int 2147483629))) (cD (.int 64))) (cVar 1))))))
noncomputable def fBag : Fn := runF 3 gBag
noncomputable def fTake : Fn := runF 3 gTake
noncomputable def sIn : Str := ⟨#[105, 110]⟩
noncomputable def sOut : Str := ⟨#[111, 117, 116]⟩
noncomputable def sChin : Str := ⟨#[99, 104, 105, 110]⟩
noncomputable def sBrow : Str := ⟨#[98, 114, 111, 119]⟩
inductive BagT : Tr → Prop where
  | mk {c s : Int} (c0 : 0 ≤ c) (s0 : 0 ≤ s) (s1 : s < 2147483648) : BagT (.lst [.dat (.int c), .dat (.int s)])
theorem mod2 {s : Int} (h0 : 0 ≤ s) (h1 : s < 2147483648) : 0 ≤ s * 48271 % 2147483647 ∧ s * 48271 % 2147483647 < 2147483648 := by omega
theorem ixN_nat {n : Nat} {i : Int} (h0 : 0 ≤ i) (h1 : i < n) : ixN n i = some i.toNat := by
  unfold ixN
  rw [if_pos h0, if_pos h1]
@[simp] theorem ixN_cast {n k : Nat} (h : k < n) : ixN n (k : Int) = some k := by
  rw [ixN_nat (by omega) (by omega), Int.toNat_natCast]
@[simp] theorem ixN_0 {n : Nat} (h : 0 < n) : ixN n 0 = some 0 := ixN_nat (by omega) (by omega)
@[simp] theorem ixN_1 {n : Nat} (h : 1 < n) : ixN n 1 = some 1 := ixN_nat (by omega) (by omega)
theorem atI_nat {α : Type} {xs : List α} {i : Int} (h0 : 0 ≤ i) (h1 : i < xs.length) : atI xs i = xs[i.toNat]? := by
  unfold atI
  rw [ixN_nat h0 h1]
  rfl
@[simp] theorem atI_cast {α : Type} {xs : List α} {k : Nat} (h : k < xs.length) : atI xs (k : Int) = xs[k]? := by
  rw [atI_nat (by omega) (by omega), Int.toNat_natCast]
@[simp] theorem atI_0 {α : Type} {xs : List α} (h : 0 < xs.length) : atI xs 0 = xs[0]? := by
  unfold atI
  rw [ixN_0 h]
  rfl
@[simp] theorem atI_1 {α : Type} {xs : List α} (h : 1 < xs.length) : atI xs 1 = xs[1]? := by
  unfold atI
  rw [ixN_1 h]
  rfl
@[simp] theorem ixN_2 {n : Nat} (h : 2 < n) : ixN n 2 = some 2 := ixN_nat (by omega) (by omega)
@[simp] theorem atI_2 {α : Type} {xs : List α} (h : 2 < xs.length) : atI xs 2 = xs[2]? := by
  unfold atI
  rw [ixN_2 h]
  rfl
@[simp] theorem ixN_3 {n : Nat} (h : 3 < n) : ixN n 3 = some 3 := ixN_nat (by omega) (by omega)
@[simp] theorem atI_3 {α : Type} {xs : List α} (h : 3 < xs.length) : atI xs 3 = xs[3]? := by
  unfold atI
  rw [ixN_3 h]
  rfl
@[simp] theorem ixN_4 {n : Nat} (h : 4 < n) : ixN n 4 = some 4 := ixN_nat (by omega) (by omega)
@[simp] theorem atI_4 {α : Type} {xs : List α} (h : 4 < xs.length) : atI xs 4 = xs[4]? := by
  unfold atI
  rw [ixN_4 h]
  rfl
@[simp] theorem ixN_5 {n : Nat} (h : 5 < n) : ixN n 5 = some 5 := ixN_nat (by omega) (by omega)
@[simp] theorem atI_5 {α : Type} {xs : List α} (h : 5 < xs.length) : atI xs 5 = xs[5]? := by
  unfold atI
  rw [ixN_5 h]
  rfl
@[simp] theorem ixN_6 {n : Nat} (h : 6 < n) : ixN n 6 = some 6 := ixN_nat (by omega) (by omega)
@[simp] theorem atI_6 {α : Type} {xs : List α} (h : 6 < xs.length) : atI xs 6 = xs[6]? := by
  unfold atI
  rw [ixN_6 h]
  rfl
@[simp] theorem ixN_7 {n : Nat} (h : 7 < n) : ixN n 7 = some 7 := ixN_nat (by omega) (by omega)
@[simp] theorem atI_7 {α : Type} {xs : List α} (h : 7 < xs.length) : atI xs 7 = xs[7]? := by
  unfold atI
  rw [ixN_7 h]
  rfl
@[simp] theorem ixN_8 {n : Nat} (h : 8 < n) : ixN n 8 = some 8 := ixN_nat (by omega) (by omega)
@[simp] theorem atI_8 {α : Type} {xs : List α} (h : 8 < xs.length) : atI xs 8 = xs[8]? := by
  unfold atI
  rw [ixN_8 h]
  rfl
@[simp] theorem ixN_9 {n : Nat} (h : 9 < n) : ixN n 9 = some 9 := ixN_nat (by omega) (by omega)
@[simp] theorem atI_9 {α : Type} {xs : List α} (h : 9 < xs.length) : atI xs 9 = xs[9]? := by
  unfold atI
  rw [ixN_9 h]
  rfl
theorem take_ok {m : Md} {t : Tr} {n : Int} (hm : m.ow = true) (hb : BagT t) (hn : 0 < n) (hl : n.natAbs < lim) {Q : Tr → List Sl → Prop} (k : ∀ r t', 0 ≤ r → r < n → BagT t' → Q (.dat (.int r)) [.own .pin t', .val (.int n)]) :
    okF (fTake [.own m t, .val (.int n)]) Q := by
  obtain ⟨h0, h1, h2⟩ := hb
  rename_i c s
  have hp : pinS (.own m (.lst [.dat (.int c), .dat (.int s)])) = .own .pin (.lst [.dat (.int c), .dat (.int s)]) := by cases m <;> first | rfl | cases hm
  refine okF_run ?_
  simp only [entry, List.map_cons, List.map_nil, hp]
  unfold gTake
  rw [okS_seq]
  refine okS_if ?_
  simp
  split
  · rw [okS_seq]
    refine okS_set ?_
    simp [hn]
    rw [okS_seq]
    refine okS_setIx ?_
    simp [hn, hl]
    exact k _ _ (Int.emod_nonneg _ (by omega)) (Int.emod_lt_of_pos _ hn) ⟨Int.ediv_nonneg h0 (by omega), h1, h2⟩
  · rw [okS_seq]
    refine okS_setIx ?_
    simp
    refine ⟨⟨lt_lim (by omega) (by omega), by decide +kernel⟩, ?_⟩
    refine okS_ret ?_
    have hs := mod2 h1 h2
    generalize s * 48271 % 2147483647 = z at hs ⊢
    simp [hn]
    refine ⟨lt_lim (by omega) (by omega), by decide +kernel, ?_⟩
    exact k _ _ (Int.emod_nonneg _ (by omega)) (Int.emod_lt_of_pos _ hn) ⟨h0, hs.1, hs.2⟩
theorem bag_ok {ns : List Int} {i : Nat} (hi : i ≤ 40) {Q : Tr → List Sl → Prop} (k : ∀ t, BagT t → Q t [.val (scrD ns), .val (.int i)]) :
    okF (fBag [.val (scrD ns), .val (.int i)]) Q := by
  refine okF_run ?_
  simp only [entry, List.map_cons, List.map_nil, pinS_val]
  unfold gBag
  rw [okS_seq]
  refine okS_set ?_
  simp
  rw [okS_seq]
  refine okS_if ?_
  have fin : ∀ z : Int, 0 ≤ z → okS (sSeq (sIf (cCmp ltD (cVar 2) (cBin powD (cD (.int 10)) (cD (.int 18)))) (sRet (nLst (aCons (cD (.int 0)) (aCons (cBin addD (cD (.int 1)) (cBin modD (cBin addD (cBin mulD (cVar 2) (cD (.int 7919))) (cBin mulD (cD (.int 104729)) (cVar 1))) (cD (.int 2147483646)))) aNil)))) sNil)
      (sRet (nLst (aCons (cVar 2) (aCons (cBin addD (cD (.int 1)) (cBin modD (cBin addD (cVar 2) (cVar 1)) (cD (.int 2147483646)))) aNil)))) [.val (scrD ns), .val (.int i), .val (.int z)]) fun o => match o with
        | .nx ρ' => Q (.dat .none) (ρ'.take 2)
        | .rt t ρ' => Q t (ρ'.take 2)
        | _ => False := by
    intro z hz
    rw [okS_seq]
    refine okS_if ?_
    simp
    split
    · rename_i h
      refine okS_ret ?_
      simp
      have e := @lt_lim i (by omega) (by omega)
      refine ⟨⟨lt_lim (by omega) (by omega), by decide +kernel⟩, ⟨by decide +kernel, by simpa using e⟩, ?_⟩
      exact k _ ⟨by omega, by omega, by omega⟩
    · refine okS_ret ?_
      simp
      exact k _ ⟨hz, by omega, by omega⟩
  simp
  split
  · rename_i h
    refine okS_set ?_
    simp [h]
    exact ⟨by decide +kernel, fin _ (Int.emod_nonneg _ (by decide))⟩
  · exact fin 0 (by omega)
theorem okM_take {ρ : Rho} {i : Nat} {m : Md} {t : Tr} {n : Int} {T : List Nat} {P : Tr → Rho → Prop} (hi : ρ[i]? = some (.own m t)) (hm : m.ow = true) (hT : T.contains i = true) (hb : BagT t) (hn : 0 < n) (hl : n.natAbs < lim) (k : ∀ r t', 0 ≤ r → r < n → BagT t' → P (.dat (.int r)) (ρ.set i (.own m t'))) :
    okM (callN T 2 fTake [.o i, .d (.int n)] ρ) P := by
  rw [okM_callN]
  simp only [argSls_o, hi, argSls_d, argSls_nil, Option.map_some, okO_some, List.length_cons, List.length_nil, oneEach_o, oneEach_d, oneEach_nil, posOf_d, posOf_nil, Option.map_none, Option.isNone_none, Bool.and_self, allIn_o, allIn_d, allIn_nil, hT, true_and]
  rw [ow_arg hm]
  refine take_ok hm hb hn hl fun r t' h0 h1 ht => ?_
  simp only [mrg_own, unb_pin, mrg_val, mrg_nil, backOk_own, backOk_val, backOk_nil, true_and]
  have e : wb ρ [.o i, .d (.int n)] [.own .pin t', .val (.int n)] = ρ.set i (.own m t') := by
    apply List.ext_getElem?
    intro j
    rw [wb_eq, wbGo_get, Nat.zero_add]
    by_cases hj : i = j
    · subst hj
      have hlen : i < ρ.length := (List.getElem?_eq_some_iff.mp hi).1
      rw [hi, List.getElem?_set_self hlen]
      simp
    · rw [List.getElem?_set_ne hj]
      simp [hj]
  rw [e]
  exact k r t' h0 h1 ht
inductive IsShow : PyData → Prop where
  | mk {f : Int} {p : Str} (h0 : 1 ≤ f) (h1 : f ≤ 9) (hp : p = sChin ∨ p = sBrow) : IsShow (.tuple [.int f, .str p])
inductive IsSign : PyData → Prop where
  | mk {a p : Str} {c f : Int} (ha : a = sIn ∨ a = sOut) (c0 : 0 ≤ c) (c1 : c ≤ 9) (h0 : 1 ≤ f) (h1 : f ≤ 9) (hp : p = sChin ∨ p = sBrow) : IsSign (.tuple [.str a, .int c, .int f, .str p])
theorem okM_pure {F : Fn} {ρ : Rho} {ds : List PyData} {n : Nat} {T : List Nat} {P : Tr → Rho → Prop} (hn : ds.length = n) (k : okF (F (ds.map .val)) fun r _ => P r ρ) : okM (callN T n F (ds.map .d) ρ) P := by
  have h1 : ∀ ds : List PyData, argSls ρ (ds.map .d) = some (ds.map .val) := fun ds => by
    induction ds with
    | nil => rfl
    | cons d ds ih => simp [ih]
  have h2 : ∀ (ds : List PyData) (i : Nat), posOf (ds.map .d) i = none := fun ds i => by
    induction ds with
    | nil => rfl
    | cons d ds ih => simp [ih]
  have h3 : ∀ ds : List PyData, oneEach (ds.map .d) = true := fun ds => by
    induction ds with
    | nil => rfl
    | cons d ds ih => simp [ih]
  have h4 : ∀ ds : List PyData, allIn T (ds.map .d) = true := fun ds => by
    induction ds with
    | nil => rfl
    | cons d ds ih => simp [ih]
  have h5 : ∀ (ds : List PyData) (os : List Sl), backOk (ds.map .val) (mrg (ds.map .val) os) = true := fun ds => by
    induction ds with
    | nil => intro os; rfl
    | cons d ds ih => intro os; simp [ih]
  rw [okM_callN, h1]
  simp only [okO_some, List.length_map, hn, h3, h4, true_and]
  refine okF_mono k fun r outs p => ⟨h5 _ _, ?_⟩
  rw [wb_eq, wbGo_no (h2 ds)]
  exact p
theorem okM_pure2 {F : Fn} {ρ : Rho} {d e : PyData} {T : List Nat} {P : Tr → Rho → Prop} (k : okF (F [.val d, .val e]) fun r _ => P r ρ) : okM (callN T 2 F [.d d, .d e] ρ) P := okM_pure (ds := [d, e]) rfl k
end VL

end

section
set_option Elab.async false
set_option linter.all false
set_option maxRecDepth 100000
namespace VL
open PySem PySem.Spec PyProof.Rows L2
noncomputable def sBought : Str := ⟨#[98, 111, 117, 103, 104, 116]⟩
noncomputable def sSold : Str := ⟨#[115, 111, 108, 100]⟩
inductive IsCard (n : Int) : PyData → Prop where
  | mk {w o p c m : Int} {d : Str} (w0 : 0 ≤ w) (w1 : w < n) (o0 : 0 ≤ o) (o1 : o < n) (wo : w ≠ o) (hd : d = sBought ∨ d = sSold) (p0 : 0 ≤ p) (p1 : p ≤ 1000000000) (c0 : 1 ≤ c) (c1 : c ≤ 1000000) (m0 : 0 ≤ m) (m1 : m ≤ 1000000000) :
    IsCard n (.tuple [.int w, .int o, .str d, .int p, .int c, .int m])
@[simp] theorem flatD_i {i : Int} : flatD (.int i) = true := rfl
@[simp] theorem flatD_s {i : Str} : flatD (.str i) = true := rfl
@[simp] theorem flatD_b {i : Bool} : flatD (.bool i) = true := rfl
@[simp] theorem flatD_n : flatD .none = true := rfl
end VL

end

section
set_option Elab.async false
set_option linter.all false
set_option maxRecDepth 100000
namespace VL
open PySem PySem.Spec PyProof.Rows L2
noncomputable def unown : Sl → Bool
  | .own _ _ => false
  | .al _ _ => false
  | _ => true
theorem compGo_map {α : Type} {D : α → PyData} {v : Nat} {G : MG} {tt : M Bool} {te : M Rv} {ρ : Rho} (p : α → Bool) (f : α → PyData) (vs : List Nat) (R : α → Rho) (ρ0 : Rho) :
    ∀ (ds : List α) (acc : List PyData), acc.length + ds.length ≤ 16777216 → (∀ d ∈ ds, G (D d) ρ0 = some (R d) ∧ tt (R d) = some (.ok (p d) (R d)) ∧ (p d = true → te (R d) = some (.ok (.d (f d)) (R d))) ∧ noOwn (R d) vs = true ∧ wipeR (R d) vs = ρ0) →
    compGo vs G tt te (ds.map D) acc ρ0 = some (acc ++ (ds.filter p).map f, ρ0)
  | [], acc, _, _ => by simp [compGo]
  | d :: ds, acc, hl, h => by
    have again := fun acc' hl' => compGo_map (v := v) (G := G) (tt := tt) (te := te) (ρ := ρ) p f vs R ρ0 ds acc' hl' fun y hy => h y (List.mem_cons_of_mem _ hy)
    obtain ⟨e1, e2, e3, e4, e5⟩ := h d List.mem_cons_self
    simp only [List.length_cons] at hl
    rw [List.map_cons]
    unfold compGo
    rw [e1]
    simp only
    rw [e2]
    cases hp : p d with
    | true =>
      simp only [e3 hp, e4, e5, small_of (show acc.length + 1 ≤ 16777216 by omega), Bool.and_self, if_true]
      rw [again (acc ++ [f d]) (by simp; omega)]
      simp [List.filter_cons, hp]
    | false =>
      simp only [e4, e5, if_true]
      rw [again acc (by omega)]
      simp [List.filter_cons, hp]
theorem okM_compM {α : Type} {D : α → PyData} {ds : List α} {fi : M (List PyData)} {v : Nat} {tt : M Bool} {te : M Rv} {ρ : Rho} {Q : Tr → Rho → Prop} {s : Sl} (p : α → Bool) (f : α → PyData) (hi : fi ρ = some (.ok (ds.map D) ρ)) (hl : ds.length ≤ 16777216) (hv : ρ[v]? = some s) (hs : unown s = true)
    (ht : ∀ d ∈ ds, tt (ρ.set v (.val (D d))) = some (.ok (p d) (ρ.set v (.val (D d))))) (he : ∀ d ∈ ds, p d = true → te (ρ.set v (.val (D d))) = some (.ok (.d (f d)) (ρ.set v (.val (D d)))))
    (k : Q (.lst (((ds.filter p).map f).map .dat)) ρ) : okM (nComp fi [v] (gN v) tt te ρ) Q := by
  have hvl : v < ρ.length := (List.getElem?_eq_some_iff.mp hv).1
  refine okM_comp ?_
  rw [hi, okM_ok]
  have n1 : noOwn ρ [v] = true := by
    simp only [noOwn_cons, noOwn_nil, hv, Bool.and_true]
    cases s <;> first | rfl | cases hs
  have nn : noOwn (ρ.set v .no) [v] = true := by
    simp only [noOwn_cons, noOwn_nil, Bool.and_true]
    rw [List.getElem?_set_self hvl]
  refine ⟨n1, ?_⟩
  have w : wipeR ρ [v] = ρ.set v .no := rfl
  rw [w, compGo_map (v := v) (ρ := ρ) p f [v] (fun d => ρ.set v (.val (D d))) (ρ.set v .no) ds [] (by simpa using hl) fun d hd => ⟨?_, ht d hd, he d hd, ?_, ?_⟩]
  · rw [okO_some]
    refine ⟨nn, ?_⟩
    have e : restR ρ (ρ.set v .no) [v] = ρ := by
      simp only [restR_cons, restR_nil, hv]
      rw [List.set_set]
      apply List.ext_getElem?
      intro j
      by_cases hj : v = j
      · subst hj
        rw [List.getElem?_set_self hvl, hv]
      · rw [List.getElem?_set_ne hj]
    rw [e]
    simpa using k
  · rw [gN_eq, setSl_eq, List.getElem?_set_self hvl, frB_no, if_pos rfl, List.set_set]
  · simp only [noOwn_cons, noOwn_nil, Bool.and_true]
    rw [List.getElem?_set_self hvl]
  · simp only [wipeR_cons, wipeR_nil]
    rw [List.set_set]
theorem okM_eq {α : Type} {o : Option (Er α)} {a : α} {ρ : Rho} {P : α → Rho → Prop} (h : o = some (.ok a ρ)) (k : P a ρ) : okM o P := ⟨a, ρ, h, k⟩
noncomputable def tr (xs : List PyData) : Tr := .lst (xs.map .dat)
@[simp] theorem isNode_tr {xs : List PyData} : isNode (tr xs) = true := rfl
theorem at_tr {xs : List PyData} : (tr xs).at [] = some (.lst (xs.map .dat)) := at_nil
theorem toD_tr {xs : List PyData} : (tr xs).toD = some (.list xs) := by unfold tr; rw [toD_lst, toDs_map, Option.map_some]
@[simp] theorem rdSl_tr {i : Nat} {m : Md} {xs : List PyData} : rdSl i (some (.own m (tr xs))) = some (.o i) := rfl
@[simp] theorem dsSl_tr {m : Md} {xs : List PyData} : dsSl (some (.own m (tr xs))) = some (.list xs) := by
  show (flat (xs.map .dat)).map PyData.list = _
  rw [flat_dat]
  rfl
@[simp] theorem der_tr {xs : List PyData} : (tr xs).toD = some (.list xs) := toD_tr
theorem app_ok {ρ : Rho} {P : Out → Prop} {T2 : List Nat} {i : Nat} {m m' : Md} {xs : List PyData} {fe : M Rv} (hi : ρ[i]? = some (.own m (tr xs))) (hT : T2.contains i = false) (hl : xs.length < 16777216) (hm : m'.ow = true)
    (he : okM (fe ρ) fun r ρ1 => ∃ d, r = .d d ∧ ρ1[i]? = some (.own m' (tr xs)) ∧ P (.nx (ρ1.set i (.own m' (tr (xs ++ [d])))))) : okS (sApp T2 (pVar i) (nDat fe) ρ) P := by
  refine okS_app ?_
  rw [okM_pVar, hi]
  simp only [okO_some]
  refine ⟨by rw [treeAt_eq, hi]; simp only [at_tr, isLst_l], ?_⟩
  rw [okM_nDat]
  refine okM_mono he ?_
  rintro r ρ1 ⟨d, rfl, h1, k⟩
  rw [rvd_d, okO_some]
  refine ⟨⟨hT, ?_⟩, xs.map .dat, ?_, ?_, ?_⟩
  · rw [modeOk_eq, h1]
    cases m' <;> first | rfl | cases hm
  · rw [treeAt_eq, h1]; exact at_tr
  · rw [List.length_map]; exact small_of (by omega)
  · rw [putAt_eq, h1]
    simp only [put_nil]
    have e : xs.map Tr.dat ++ [.dat d] = (xs ++ [d]).map .dat := by simp
    rw [e]
    exact k
end VL

end

section
set_option Elab.async false
set_option linter.all false
set_option maxRecDepth 100000
set_option maxHeartbeats 2000000
namespace SM
open PySem
noncomputable def s_NoBargain : Str := ⟨#[78, 111, 66, 97, 114, 103, 97, 105, 110]⟩
noncomputable def s_NoMember : Str := ⟨#[78, 111, 77, 101, 109, 98, 101, 114]⟩
noncomputable def s_NotTheirs : Str := ⟨#[78, 111, 116, 84, 104, 101, 105, 114, 115]⟩
noncomputable def s_x : Str := ⟨#[]⟩
end SM
namespace VL
open PySem PySem.Spec PyProof.Rows L2 SM
structure TabOk (K : PySem.W.Frag) (mg : Str → Option Value) (tab : List (Str × Addr)) (Hc : Addr) : Prop where
  mg : ∀ y ay, (y, ay) ∈ tab → mg y = some (.ref ay)
  nd : (tab.map (·.2)).Nodup
  ex : ∀ y ay, (y, ay) ∈ tab → ExcF K (tab.map (·.2)) ay
  hx : ∀ y ay, (y, ay) ∈ tab → PySem.W.exmOne K (.ref ay) (.ref Hc) = some true
noncomputable def tabB (K : PySem.W.Frag) (as : List Addr) (Hc : Addr) : Bool := decide as.Nodup && as.all fun C => excB K as C && (PySem.W.exmOne K (.ref C) (.ref Hc) == some true)
theorem tab_of {K : PySem.W.Frag} {mg : Str → Option Value} {tab : List (Str × Addr)} {Hc : Addr} (hm : ∀ y ay, (y, ay) ∈ tab → mg y = some (.ref ay)) (h : tabB K (tab.map (·.2)) Hc = true) : TabOk K mg tab Hc := by
  unfold tabB at h
  rw [Bool.and_eq_true, List.all_eq_true] at h
  obtain ⟨h1, h2⟩ := h
  have h3 : ∀ y ay, (y, ay) ∈ tab → excB K (tab.map (·.2)) ay = true ∧ (PySem.W.exmOne K (.ref ay) (.ref Hc) == some true) = true := fun y ay hy => by
    have := h2 ay (List.mem_map.mpr ⟨_, hy, rfl⟩)
    rwa [Bool.and_eq_true] at this
  exact ⟨hm, of_decide_eq_true h1, fun y ay hy => excF_of (h3 y ay hy).1, fun y ay hy => beq_iff_eq.mp (h3 y ay hy).2⟩
theorem TabOk.exc {K : PySem.W.Frag} {mg : Str → Option Value} {tab : List (Str × Addr)} {Hc : Addr} (T : TabOk K mg tab Hc) {c : Str} {D : Addr} (hc : c ∈ tab.map (·.1)) (hD : mg c = some (.ref D)) : ExcF K (tab.map (·.2)) D := by
  obtain ⟨⟨c', ac⟩, hcm, rfl⟩ := List.mem_map.mp hc
  have := T.mg _ _ hcm
  rw [hD] at this
  cases this
  exact T.ex _ _ hcm
section
variable {P : Program} {w : World} {K : PySem.W.Frag} {mg : Str → Option Value} {base : Heap}
end
end VL

end

section
set_option Elab.async false
set_option linter.all false
set_option maxRecDepth 100000
namespace VL
open PySem PySem.Spec PyProof.Rows L2
section
variable {α β : Type} {ρ : Rho}
@[simp] theorem okS_raise {c : Str} {P : Out → Prop} : okS (sRaise c ρ) P ↔ P (.ex c ρ) := okS_some
@[simp] theorem okM_nCallR {Ts : List Nat} {m : Nat} {F : Fn} {f : M (List Rv)} {P : Tr → Rho → Prop} : okM (nCallR Ts m F f ρ) P ↔ okM (f ρ) fun rs ρ1 => okM (callR Ts m F rs ρ1) P := by
  unfold nCallR
  simp only [okM_bnd]
section
variable {ds : List PyData} {n : Nat} {T : List Nat} {F : Fn}
theorem pure_2 : ∀ (ds : List PyData) (i : Nat), posOf (ds.map .d) i = none
  | [], _ => rfl
  | d :: ds, i => by simp [pure_2 ds i]
end
@[simp] theorem isNo_no : isNo (some .no) = true := rfl
end
end VL

end

section
set_option Elab.async false
set_option linter.all false
set_option maxRecDepth 100000
namespace VL
open PySem PySem.Spec PyProof.Rows L2
section
variable {X : Cx} {T T1 T2 T3 : List Nat} {W : WV} {K : Fg} {fp1 : M (Nat × List Nat)} {a : Expr} {pos p : Pos}
noncomputable def nMv (i : Nat) : M Tr := fun ρ => match ρ[i]? with
  | some (.own .free t) => some (.ok t (ρ.set i (.own .free .hole)))
  | _ => none
theorem vn_mv (i : Nat) {x : Str} (hN : X.N[i]? = some x := by rfl) (hv : Vis X.env.scope x := by first | exact Or.inl rfl | exact Or.inr (Or.inl rfl) | exact Or.inr (Or.inr rfl)) (hd : (x == ("__debug__" : Str)) = false := by decide)
    (hcd : (x == ("__classdict__" : Str)) = false := by decide) : VN X [i] W (.Name x pos) (nMv i) :=
  pe_imp (pe_var hN hv hd hcd) fun σ H Q ⟨F, ρ, fp, o, E, e, P⟩ => by
    unfold nMv at e
    split at e
    · rename_i t h
      cases ok_inj e
      obtain ⟨u, hu, q⟩ := E.sl i _ h
      have hi : i < ρ.length := (List.getElem?_eq_some_iff.mp h).1
      have alN : AlOk H σ (ρ.set i (.own .free .hole)) := al_set E hi rfl
      refine ⟨u, sg_some.mp hu, P u H F (fset fp i []) ⟨⟨⟨E.sub, by rw [List.length_set]; exact E.len, fun j s hs => ?_, fun j hj => ?_, fun j => ?_, fun j l b h1 h2 => ?_, E.tb, alN⟩, Same.refl _, fun _ h h' => absurd h h', fun _ h => h, fun _ _ h _ _ => h, fun b hb => ?_, fun j mj tj hj hmj => ?_, fun j tj hj => ?_⟩, fun j m t' hj => ?_, fun j hj => ?_⟩ ⟨fp i, q, E.nd i, fun b hb => .inr ⟨i, hb⟩, fun b hb z => ?_⟩⟩
      · unfold fset
        by_cases hji : i = j
        · subst hji
          rw [List.getElem?_set_self hi] at hs
          cases hs
          rw [if_pos rfl]
          exact ⟨u, hu, .hole⟩
        · rw [List.getElem?_set_ne hji] at hs
          rw [if_neg (Ne.symm hji)]
          exact E.sl j s hs
      · unfold fset
        by_cases hji : j = i
        · rw [if_pos hji]
        · rw [if_neg hji]
          refine E.nil j fun m t z => hj m t ?_
          rw [List.getElem?_set_ne (Ne.symm hji)]
          exact z
      · unfold fset
        split
        · exact List.nodup_nil
        · exact E.nd j
      · unfold fset at h1 h2
        split at h1
        · cases h1
        · split at h2
          · cases h2
          · exact E.ap j l b h1 h2
      · rcases hb.fset with z | z
        · cases z
        · exact .inl z
      · have hji : i ≠ j := fun z => by subst z; rw [h] at hj; cases hj; cases hmj
        exact ⟨rfl, mj, tj, by rw [List.getElem?_set_ne hji]; exact hj, hmj⟩
      · have hji : i ≠ j := fun z => by subst z; rw [h] at hj; cases hj
        refine ⟨rfl, by rw [List.getElem?_set_ne hji]; exact hj, ?_, fun _ _ => rfl⟩
        unfold fset
        rw [if_neg (Ne.symm hji)]
      · by_cases hji : i = j
        · subst hji
          rw [h] at hj
          cases hj
          exact ⟨.hole, List.getElem?_set_self hi⟩
        · exact ⟨t', by rw [List.getElem?_set_ne hji]; exact hj⟩
      · have hji : i ≠ j := fun z => hj (by simp [z])
        refine ⟨List.getElem?_set_ne hji, ?_, fun _ _ => rfl⟩
        unfold fset
        rw [if_neg (Ne.symm hji)]
      · obtain ⟨j, hj⟩ := z
        unfold fset at hj
        split at hj
        · cases hj
        · rename_i hne
          exact hne (E.ap j i b hj hb)
    · cases e
noncomputable def cutP1 (Ts : List Nat) (r : Nat × List Nat) (lo hi : Option Int) : M Rv := fun ρ => if Ts.contains r.1 then none else match treeAt ρ r with
  | some (.lst ts) => (match flat ts with
    | some ds => (match cutD (.list ds) lo hi with
      | some z => some (.ok (.d z) ρ)
      | none => none)
    | none => none)
  | _ => none
noncomputable def cCutP (Ts : List Nat) (f : M (Nat × List Nat)) (fl fh : M (Option Int)) : M Rv := bnd f fun r => bnd fl fun lo => bnd fh fun hi => cutP1 Ts r lo hi
variable {fl fh : M (Option Int)} {lo hi : Option Expr} {p2 : Pos}
noncomputable def cIsiP (B : BT) (f : M (Nat × List Nat)) : M Rv := bnd f fun r => fun ρ => match (treeAt ρ r).bind Tr.toD with
  | some d => (match isiD B d with
    | some b => some (.ok (.d (.bool b)) ρ)
    | none => none)
  | none => none
end
end VL

end

section
set_option Elab.async false
set_option linter.all false
set_option maxRecDepth 100000
namespace VL
open PySem PySem.Spec PyProof.Rows L2
section
variable {X : Cx} {T T1 T2 T3 T4 T5 : List Nat} {W : WV} {K : Fg} {pos p : Pos}
variable {fp1 : M (Nat × List Nat)} {fa : M Rv} {o i e : Expr} {apos cpos : Pos}
variable {fi fe : M Rv} {tpos : Pos}
end
end VL

end

section
set_option Elab.async false
set_option linter.all false
set_option maxRecDepth 100000
namespace VL
open PySem PySem.Spec PyProof.Rows L2
section
variable {X : Cx} {T : List Nat} {W : WV} {K : Fg} {pos : Pos}
noncomputable def keyTD (k : List Key) : PyData := .tuple (k.map keyPD)
theorem dqAll_keys {F : Hp} : ∀ {k : List Key}, DqAll K F (k.map kV) (k.map keyPD)
  | [] => .nil
  | _ :: _ => .cons keyPD_ok dqAll_keys
end
end VL

end

section
set_option Elab.async false
set_option linter.all false
set_option maxRecDepth 100000
set_option maxHeartbeats 2000000
namespace VL
open PySem PySem.Spec PyProof.Rows L2
noncomputable def keyIx {κ α : Type} [DecidableEq κ] (k : κ) : List (κ × α) → Option Nat
  | [] => none
  | (g, _) :: r => if g = k then some 0 else (keyIx k r).map (· + 1)
structure FldOk (K : Fg) (c : Str) (f : Str) : Prop where
  cl : ∀ C, PySem.W.nsIn K mainGlobals c = some (some (.ref C)) → Cls K C ∧ NoAttr K C f
noncomputable def pFld (c f : Str) (fo : M (Nat × List Nat)) : M (Nat × List Nat) := bnd fo fun r => fun ρ => match treeAt ρ r with
  | some (.ins c' fs) => if c' = c then (match keyIx f fs with
    | some j => some (.ok (r.1, r.2 ++ [j]) ρ)
    | none => none) else none
  | _ => none
section
variable {X : Cx} {T T1 T2 : List Nat} {W : WV} {K : Fg} {fp1 : M (Nat × List Nat)} {fa : M Rv} {fn : M Tr} {o e : Expr} {c f f' : Str} {pos pos' : Pos}
noncomputable def putFT (f : Str) (t : Tr) : List (Str × Tr) → List (Str × Tr)
  | [] => [(f, t)]
  | (g, x) :: r => if g = f then (g, t) :: r else (g, x) :: putFT f t r
noncomputable def fld1 (c f : Str) (T2 : List Nat) (tn : Tr) (r : Nat × List Nat) : MS := fun ρ => if !modeOk ρ r.1 then none else match treeAt ρ r with
  | some (.ins c' fs) => if c' = c ∧ fs.length < 1000 then some (.nx (putAt ρ r (.ins c (putFT f tn fs)))) else none
  | _ => none
noncomputable def sFldT (c f : Str) (g : M Tr) (fo : M (Nat × List Nat)) : MS := sE g fun t => sE fo (fld1 c f [] t)
noncomputable def isCls (c m : Str) (ρ : Rho) (i : Nat) : Bool := match ρ[i]? with
  | some (.own _ (.ins c' fs)) => decide (c' = c) && (keyIx m fs).isNone
  | _ => false
noncomputable def nMeth (c m : Str) (Ts : List Nat) (k : Nat) (G : Fn) (i : Nat) (fs : M (List Rv)) : M Tr := fun ρ => if isCls c m ρ i then bnd fs (fun xs => callR Ts k G (.o i :: xs)) ρ else none
end
section
variable {X : Cx} {T Ts : List Nat} {W : WV} {k m0 i : Nat} {g : Addr} {fd : FuncData} {ps : List Str} {G : Fn} {x c m m' : Str} {px apos pos : Pos} {e : Expr} {es : List Expr} {fs : M (List Rv)}
end
end VL

end

section
set_option Elab.async false
set_option linter.all false
set_option maxRecDepth 100000
set_option maxHeartbeats 2000000
namespace VL
open PySem PySem.Spec PyProof.Rows L2
section
variable {X : Cx} {CX : CXT} {k : Nat} {f C : Addr} {fd : FuncData} {ps : List Str} {sp : Sp} {E : Sg → XK} {x : Str} {p pos : Pos} {e : Expr} {es : List Expr} {t : TA}
end
section
variable {X : Cx} {T : List Nat} {W : WV} {k m0 : Nat} {g C : Addr} {fd : FuncData} {ps : List Str} {G : Fn} {x c : Str} {p pos : Pos} {e : Expr} {es : List Expr} {fs : M (List Rv)}
end
end VL

end

section
set_option Elab.async false
set_option linter.all false
set_option maxRecDepth 100000
set_option maxHeartbeats 2000000
namespace VL
open PySem PySem.Spec PyProof.Rows L2
section
variable {X : Cx} {T T1 T2 T3 : List Nat} {W : WV} {K : Fg} {fp1 : M (Nat × List Nat)} {fa : M Rv} {fn : M Tr} {o e : Expr} {pos p apos cpos : Pos}
noncomputable def nDictC (f : M (Nat × List Nat)) : M Tr := bnd f fun r => fun ρ => match treeAt ρ r with
  | some (.dk kvs) => (match dats kvs with
    | some ds => some (.ok (.dk (toT ds)) ρ)
    | none => none)
  | _ => none
noncomputable def popK1 (T2 : List Nat) (r : Nat × List Nat) (y : Rv) : MS := fun ρ => if T2.contains r.1 || !modeOk ρ r.1 then none else match y, treeAt ρ r with
  | .d kd, some (.dk kvs) => (match keyD kd, dats kvs with
    | some k, some ds => if (ds.any fun kv => decide (kv.1 = k)) then some (.nx (putAt ρ r (.dk (toT (ds.filter fun kv => decide (kv.1 ≠ k)))))) else none
    | _, _ => none)
  | _, _ => none
noncomputable def sPopK (T2 : List Nat) (f : M (Nat × List Nat)) (fk : M Rv) : MS := sE f fun r => fun ρ => if isDk (treeAt ρ r) then sE fk (popK1 T2 r) ρ else none
end
end VL

end

section
set_option Elab.async false
set_option linter.all false
set_option maxRecDepth 100000
set_option maxHeartbeats 2000000
namespace VL
open PySem PySem.Spec PyProof.Rows L2
section
variable {X : Cx} {T T1 T2 T3 : List Nat} {W : WV} {K : Fg} {fp1 : M (Nat × List Nat)} {fa : M Rv} {fn : M Tr} {o e k : Expr} {pos p apos cpos : Pos}
noncomputable def nListC (f : M (Nat × List Nat)) : M Tr := bnd f fun r => fun ρ => match treeAt ρ r with
  | some (.lst ts) => (match flat ts with
    | some ds => some (.ok (.lst (ds.map .dat)) ρ)
    | none => none)
  | _ => none
noncomputable def rlDT (K : Fg) : Rl K (List (Key × Tr)) (List (V × V)) := ⟨fun H fp F' H' fp' _ _ ps kts => ps.map (·.1) = kts.map (fun kt => kV kt.1) ∧ ∃ A, NewsOk K H fp F' H' fp' (ps.map (·.2)) (kts.map (·.2)) A, fun e h => by
  obtain ⟨h1, A, h⟩ := h
  refine ⟨h1, A, h.ok, h.nd, fun b hb => ?_, h.out⟩
  rcases h.new b hb with z | z
  · exact .inl (e.st.dom b z)
  · exact (e.st.own b z).symm⟩
noncomputable def VDT (X : Cx) (T : List Nat) (W : WV) (pos : Pos) (keys : List (Option Expr)) (values : List Expr) (f : M (List (Key × Tr))) : Prop := ∃ trs, PPs X pos keys values trs ∧ ∀ σ H Q, TVg T W (rlDT X.K) f σ H Q → tPairs trs σ H Q
noncomputable def dtNil : M (List (Key × Tr)) := ret []
noncomputable def dtCons (k : Key) (f : M Tr) (g : M (List (Key × Tr))) : M (List (Key × Tr)) := bnd f fun t => bnd g fun kts => ret ((k, t) :: kts)
variable {keys : List (Option Expr)} {values : List Expr} {fs : M (List (Key × Tr))}
theorem vdt_nil : VDT X [] W pos [] [] dtNil := ⟨[], pps_nil, fun σ H Q ⟨F, ρ, fp, o, E, e, P⟩ => by
  cases ok_inj e
  exact P [] H F fp (.refl E) ⟨rfl, [], .nil, List.nodup_nil, (fun _ h => nomatch h), (fun _ h => nomatch h)⟩⟩
theorem vdt_cons {s : Str} (hk : VE X [] W k (cD (.str s))) (hv : VN X T1 W e fn) (hr : VDT X T2 W pos keys values fs) : VDT X (T1 ++ T2) W pos (some k :: keys) (e :: values) (dtCons (.inr s) fn fs) := by
  obtain ⟨trs, p1, q1⟩ := hr
  refine ⟨_, pps_cons hk hv p1, fun σ H Q ⟨F, ρ, fp, o, E, e, P⟩ => ?_⟩
  show tV X.K [] W (cD (.str s)) σ H _
  refine ⟨F, ρ, fp, .ok (.d (.str s)) ρ, E, rfl, fun b0 H0 F0 fp0 s0 r0 => ?_⟩
  cases r0
  have e0 := (show dtCons (.inr s) fn fs ρ = some o from e)
  unfold dtCons bnd at e0
  cases h1 : fn ρ with
  | none => rw [h1] at e0; cases e0
  | some r =>
    rw [h1] at e0
    cases r with
    | ex c ρ1 =>
      cases e0
      exact ⟨F0, ρ, fp0, _, s0.env, h1, fun H1 F1 fp1 st => P H1 F1 fp1 ((s0.sub fun i hi => nomatch hi).trans (st.sub fun i hi => List.mem_append_left _ hi))⟩
    | ok t ρ1 =>
      refine ⟨F0, ρ, fp0, _, s0.env, h1, fun v H1 F1 fp1 s1 ⟨A, n1⟩ => ?_⟩
      simp only at e0
      refine q1 σ H1 _ ?_
      cases h2 : fs ρ1 with
      | none => rw [h2] at e0; cases e0
      | some r2 =>
        rw [h2] at e0
        have s01 : EStep X.K (T1 ++ T2) F H σ ρ fp F1 H1 ρ1 fp1 := (s0.sub fun i hi => nomatch hi).trans (s1.sub fun i hi => List.mem_append_left _ hi)
        cases r2 with
        | ex c ρ2 =>
          cases e0
          exact ⟨F1, ρ1, fp1, _, s1.env, h2, fun H2 F2 fp2 s2 => P H2 F2 fp2 (s01.trans (s2.sub fun i hi => List.mem_append_right _ hi))⟩
        | ok kts ρ2 =>
          cases ok_inj e0
          refine ⟨F1, ρ1, fp1, _, s1.env, h2, fun ps H2 F2 fp2 s2 ⟨hp, B, n2⟩ => P _ H2 F2 fp2 (s01.trans (s2.sub fun i hi => List.mem_append_right _ hi)) ⟨by simp [hp, kV], A ++ B, ?_⟩⟩
          have n1' : NewOk X.K H fp F1 H1 fp1 v t A := ⟨n1.ok, n1.nd, fun b hb => (n1.new b hb).elim (fun z => .inl (s0.st.dom b z)) fun z => (s0.st.own b z).symm, n1.out⟩
          exact news_cons n1' s2 n2 s01
theorem mergeK_nil : ∀ {more acc : List (Key × V)}, ((acc ++ more).map (·.1)).Nodup → mergeK acc more = acc ++ more
  | [], acc, _ => by simp [mergeK]
  | kv :: more, acc, h => by
    have hk : ¬ (acc.any fun x => decide (x.1 = kv.1)) = true := fun z => by
      obtain ⟨x, hx, e⟩ := List.any_eq_true.mp z
      rw [List.map_append, List.nodup_append] at h
      exact h.2.2 x.1 (List.mem_map_of_mem (f := (·.1)) hx) kv.1 (by simp) (of_decide_eq_true e)
    have e : mergeK acc (kv :: more) = mergeK (acc ++ [kv]) more := by
      show mergeK (putK acc kv.1 kv.2) more = _
      unfold putK
      rw [if_neg hk]
    rw [e, mergeK_nil (by simpa [List.append_assoc] using h)]
    simp
noncomputable def nDisp (fs : M (List (Key × Tr))) : M Tr := bnd fs fun kts => fun ρ => if decide (kts.length ≤ 15) && decide ((kts.map (·.1)).Nodup) then some (.ok (.dk kts) ρ) else none
theorem zip_back : ∀ {ps : List (V × V)} {kts : List (Key × Tr)}, ps.map (·.1) = kts.map (fun kt => kV kt.1) → ps = ((kts.map (·.1)).zip (ps.map (·.2))).map fun kv => (kV kv.1, kv.2)
  | [], [], _ => rfl
  | [], _ :: _, h => by simp at h
  | _ :: _, [], h => by simp at h
  | p :: ps, kt :: kts, h => by
    simp only [List.map_cons, List.cons.injEq] at h
    simp only [List.map_cons, List.zip_cons_cons, List.cons.injEq]
    exact ⟨by rw [← h.1], zip_back h.2⟩
theorem vn_disp (h : VDT X T W pos keys values fs) (hall : keys.all (·.isSome) = true := by rfl) (hl : keys.length = values.length := by rfl) (h0 : keys ≠ [] := by exact fun z => nomatch z) (h15 : keys.length ≤ 15 := by exact Nat.le_of_ble_eq_true rfl) : VN X T W (.Dict keys values pos) (nDisp fs) := by
  obtain ⟨trs, p1, q1⟩ := h
  refine pe_imp (pe_disp p1 hall hl h0 h15) fun σ H Q ⟨F, ρ, fp, o, E, e, P⟩ => ?_
  intro y ny
  have s0 : EStep X.K T F H σ ρ fp F (upd H y (.dK [])) ρ fp := (Grow.lay (.dK []) E.sub ny).step E
  have nO : ¬ Owns fp y := fun z => (E.there z).1 ny
  have nF : F y = none := E.sub.free ny
  refine q1 σ _ _ ?_
  unfold nDisp bnd at e
  cases h1 : fs ρ with
  | none => rw [h1] at e; cases e
  | some r =>
    rw [h1] at e
    cases r with
    | ex c ρ1 =>
      cases e
      exact ⟨F, ρ, fp, _, s0.env, h1, fun H1 F1 fp1 st => P H1 F1 fp1 (s0.trans st)⟩
    | ok kts ρ1 =>
      simp only at e
      split at e
      · rename_i hz
        rw [Bool.and_eq_true] at hz
        have hz1 := of_decide_eq_true hz.1
        have hz2 := of_decide_eq_true hz.2
        cases ok_inj e
        refine ⟨F, ρ, fp, _, s0.env, h1, fun ps H1 F1 fp1 s1 ⟨hp, A, n⟩ => ?_⟩
        obtain ⟨k1, k2, k3⟩ := step_keeps s1.st upd_same nF nO
        have hl1 : ps.length = kts.length := by have := congrArg List.length hp; simpa using this
        have ez1 : ((kts.map (·.1)).zip (ps.map (·.2))).map (·.1) = kts.map (·.1) := List.map_fst_zip (by simp [hl1])
        have ez2 : ((kts.map (·.1)).zip (ps.map (·.2))).map (·.2) = ps.map (·.2) := List.map_snd_zip (by simp [hl1])
        refine ⟨k1, (kts.map (·.1)).zip (ps.map (·.2)), zip_back hp, by simp; omega, ?_⟩
        have em : mergeK [] ((kts.map (·.1)).zip (ps.map (·.2))) = (kts.map (·.1)).zip (ps.map (·.2)) := mergeK_nil (acc := []) (by rw [List.nil_append, ez1]; exact hz2)
        rw [em]
        have yA : ∀ b ∈ A, b ≠ y := fun b hb z => by
          subst z
          rcases n.new b hb with w | w
          · rw [upd_same] at w; cases w
          · exact nO w
        refine P _ _ F1 fp1 (estep_upd E (s0.trans s1) ny k3 k2 k1) ⟨y :: A, .dk upd_same k2 ez1 ?_, List.nodup_cons.mpr ⟨fun z => yA y z rfl, n.nd⟩, fun b hb => ?_, fun b hb => ?_⟩
        · rw [ez2]
          exact n.ok.move (Same.refl _) fun b hb => ⟨upd_ne (yA b hb), (n.ok.mem b hb).2⟩
        · rcases List.mem_cons.mp hb with z | z
          · rw [z]; exact .inl ny
          · refine (n.new b z).imp_left fun w => ?_
            rw [upd_ne (yA b z)] at w
            exact w
        · rcases List.mem_cons.mp hb with z | z
          · rw [z]; exact k3
          · exact n.out b z
      · cases e
end
end VL

end

section
set_option Elab.async false
set_option linter.all false
set_option maxRecDepth 100000
set_option maxHeartbeats 2000000
namespace VL
open PySem PySem.Spec PyProof.Rows L2
section
variable {κ : Type} [DecidableEq κ] {K : Fg}
noncomputable def putR {α : Type} (k : κ) (x : α) : List (κ × α) → List (κ × α)
  | [] => [(k, x)]
  | (g, y) :: r => if g = k then (g, x) :: r else (g, y) :: putR k x r
noncomputable def mergeR {α : Type} (xs more : List (κ × α)) : List (κ × α) := more.foldl (fun acc kx => putR kx.1 kx.2 acc) xs
end
section
variable {X : Cx} {T T1 T2 T3 : List Nat} {W : WV} {K : Fg} {fp1 : M (Nat × List Nat)} {fn : M Tr} {o e : Expr} {pos p apos cpos : Pos}
noncomputable def upd1 (T2 : List Nat) (r : Nat × List Nat) (tn : Tr) : MS := fun ρ => if T2.contains r.1 || !modeOk ρ r.1 then none else match treeAt ρ r, tn with
  | some (.dk kts), .dk us => if small (kts.length + us.length) && decide ((kts.map (·.1)).Nodup) then some (.nx (putAt ρ r (.dk (mergeR kts us)))) else none
  | _, _ => none
noncomputable def isDkk : Option Tr → Bool
  | some (.dk _) => true
  | _ => false
noncomputable def sUpd (T2 : List Nat) (f : M (Nat × List Nat)) (g : M Tr) : MS := sE f fun r => fun ρ => if isDkk (treeAt ρ r) then sE g (upd1 T2 r) ρ else none
end
end VL

end

section
set_option Elab.async false
set_option linter.all false
set_option maxRecDepth 100000
set_option maxHeartbeats 2000000
namespace VL
open PySem PySem.Spec PyProof.Rows L2
section
variable {X : Cx} {T T1 T2 T3 : List Nat} {W : WV} {K : Fg} {fp1 : M (Nat × List Nat)} {fn : M Tr} {o e : Expr} {pos p apos cpos : Pos}
noncomputable def nMvP (Ts : List Nat) (f : M (Nat × List Nat)) : M Tr := bnd f fun r => fun ρ => if Ts.contains r.1 && modeOk ρ r.1 then (match treeAt ρ r with
  | some t => some (.ok t (putAt ρ r .hole))
  | none => none) else none
noncomputable def nPopT (Ts : List Nat) (f : M (Nat × List Nat)) : M Tr := bnd f fun r => fun ρ => if Ts.contains r.1 && modeOk ρ r.1 then (match treeAt ρ r with
  | some (.lst ts) => (match ts.getLast? with
    | some t => some (.ok t (putAt ρ r (.lst ts.dropLast)))
    | none => none)
  | _ => none) else none
end
end VL

end

section
set_option Elab.async false
set_option linter.all false
set_option maxRecDepth 100000
set_option maxHeartbeats 2000000
namespace VL
open PySem PySem.Spec PyProof.Rows L2
section
variable {X : Cx} {T T1 T2 T3 : List Nat} {W : WV} {K : Fg} {fp1 : M (Nat × List Nat)} {fn : M Tr} {o e : Expr} {pos p apos cpos : Pos}
noncomputable def asSl : Tr → Sl
  | .dat d => .val d
  | t => .own .free t
noncomputable def sUnp (i j : Nat) (f : M Tr) : MS := sE f fun t => fun ρ => match t with
  | .tup [t1, t2] => (match setSl ρ i (asSl t1) with
    | some ρ1 => (setSl ρ1 j (asSl t2)).map .nx
    | none => none)
  | _ => none
noncomputable def copies : List Tr → Option (List (List (Key × PyData)))
  | [] => some []
  | .dk kvs :: ts => (match dats kvs, copies ts with
    | some ds, some r => some (ds :: r)
    | _, _ => none)
  | _ :: _ => none
noncomputable def copyT (dss : List (List (Key × PyData))) : List Tr := dss.map fun ds => .dk (toT ds)
noncomputable def nCopyDs (v : Nat) (f : M (Nat × List Nat)) : M Tr := bnd f fun r => fun ρ => match treeAt ρ r with
  | some (.lst ts) => (match copies ts with
    | some dss => if decide (v < ρ.length) && small dss.length then some (.ok (.lst (copyT dss)) ρ) else none
    | none => none)
  | _ => none
end
end VL

end

section
set_option Elab.async false
set_option linter.all false
set_option maxRecDepth 100000
set_option maxHeartbeats 1000000
namespace VL
open PySem PySem.Spec PyProof.Rows L2
section
variable {X : Cx} {T T1 T2 : List Nat} {W : WV} {K : Fg} {pos : Pos} {e : Expr}
variable {fp1 : M (Nat × List Nat)}
end
end VL

end

section
set_option Elab.async false
set_option linter.all false
set_option maxRecDepth 100000
set_option maxHeartbeats 1000000
namespace VL
open PySem PySem.Spec PyProof.Rows L2
section
variable {X : Cx} {T T1 T2 : List Nat} {W : WV} {K : Fg} {pos p : Pos} {a b e : Expr} {fp1 : M (Nat × List Nat)} {fn : M Tr}
noncomputable def cEmp (f : M (Nat × List Nat)) (g : M Tr) : M Bool := bnd f fun r => bnd g fun tn => fun ρ => match treeAt ρ r, tn with
  | some (.lst ts), .lst [] => some (.ok ts.isEmpty ρ)
  | _, _ => none
noncomputable def cLenP (f : M (Nat × List Nat)) : M Rv := bnd f fun r => fun ρ => match treeAt ρ r with
  | some (.lst ts) => some (.ok (.d (.int ts.length)) ρ)
  | _ => none
end
mutual
noncomputable def noL : PyData → Bool
  | .list _ => false
  | .dict _ => false
  | .tuple ds => noLs ds
  | _ => true
noncomputable def noLs : List PyData → Bool
  | [] => true
  | d :: ds => noL d && noLs ds
end
mutual
noncomputable def noLt : Tr → Bool
  | .dat d => noL d
  | .lst ts => noLts ts
  | .tup ts => noLts ts
  | _ => false
noncomputable def noLts : List Tr → Bool
  | [] => true
  | t :: ts => noLt t && noLts ts
end
noncomputable def cutF (F : Hp) (L : List Addr) : Hp := fun b => if b ∈ L then none else F b
section
variable {K : Fg} {F H : Hp} {L : List Addr}
theorem cutF_out {b : Addr} (h : b ∉ L) : cutF F L b = F b := if_neg h
mutual
theorem dq_cut (hL : ∀ b ∈ L, ∃ vs, F b = some (.lst vs)) : ∀ (d : PyData) (v : V), noL d = true → Dq K F v d → Dq K (cutF F L) v d
  | .none, _, _, h => by cases h; exact .non
  | .bool b, _, _, h => by cases h; exact .bl b
  | .int i, _, _, h => by cases h; exact .int i
  | .str x, _, _, h => by cases h; exact .str x
  | .list ds, _, c, h => by simp [noL] at c
  | .tuple ds, _, c, h => by
    cases h with
    | tups hs ha =>
      refine .tups ?_ (dqAll_cut hL ds _ (by simpa [noL] using c) ha)
      rcases hs with hs | hs
      · refine .inl ?_
        rw [cutF_out fun z => by obtain ⟨vs, e⟩ := hL _ z; rw [e] at hs; cases hs]
        exact hs
      · exact .inr hs
  | .dict _, _, c, _ => by simp [noL] at c
theorem dqAll_cut (hL : ∀ b ∈ L, ∃ vs, F b = some (.lst vs)) : ∀ (ds : List PyData) (vs : List V), noLs ds = true → DqAll K F vs ds → DqAll K (cutF F L) vs ds
  | [], _, _, h => by cases h; exact .nil
  | d :: ds, _, c, h => by
    have c' : noL d = true ∧ noLs ds = true := by simpa [noLs] using c
    cases h with
    | cons h1 h2 => exact .cons (dq_cut hL d _ c'.1 h1) (dqAll_cut hL ds _ c'.2 h2)
end
mutual
theorem tr_cut (hL : ∀ b ∈ L, ∃ vs, F b = some (.lst vs)) : ∀ {v : V} {t : Tr} {A : List Addr}, TrOk K F H v t A → noLt t = true → TrOk K (cutF F L) H v t A
  | _, _, _, .dat d, c => .dat (dq_cut hL _ _ (by simpa [noLt] using c) d)
  | _, _, _, @TrOk.tup _ _ _ a vs ts A e f r, c => by
    refine .tup e ⟨?_, f.2⟩ (trs_cut hL r (by simpa [noLt] using c))
    unfold cutF; split
    · rfl
    · exact f.1
  | _, _, _, @TrOk.lst _ _ _ a vs ts A e f r, c => by
    refine .lst e ?_ (trs_cut hL r (by simpa [noLt] using c))
    unfold cutF; split
    · rfl
    · exact f
  | _, _, _, .dk e f k r, c => by simp [noLt] at c
  | _, _, _, .dt e f k r, c => by simp [noLt] at c
  | _, _, _, .ins e f kc k r, c => by simp [noLt] at c
  | _, _, _, .fk e f r, c => by simp [noLt] at c
  | _, _, _, .ft e f r, c => by simp [noLt] at c
  | _, _, _, .raw, c => by simp [noLt] at c
  | _, _, _, .sd _ _, c => by simp [noLt] at c
  | _, _, _, .hole, c => by simp [noLt] at c
theorem trs_cut (hL : ∀ b ∈ L, ∃ vs, F b = some (.lst vs)) : ∀ {vs : List V} {ts : List Tr} {A : List Addr}, TrsOk K F H vs ts A → noLts ts = true → TrsOk K (cutF F L) H vs ts A
  | _, _, _, .nil, _ => .nil
  | _, _, _, @TrsOk.cons _ _ _ v vs t ts A B q r, c => by
    have c' : noLt t = true ∧ noLts ts = true := by simpa [noLts] using c
    exact .cons (tr_cut hL q c'.1) (trs_cut hL r c'.2)
end
end
inductive LA where
  | d (x : PyData)
  | p (r : Nat × List Nat)
noncomputable def LAOk (K : Fg) (F H : Hp) (σ : Sg) (ρ : Rho) (v : V) : LA → Prop
  | .d x => Dq K F v x
  | .p r => ∃ u m t t', sg σ r.1 = some u ∧ ρ[r.1]? = some (Sl.own m t) ∧ t.at r.2 = some t' ∧ pathV H u r.2 = some v
inductive LAsOk (K : Fg) (F H : Hp) (σ : Sg) (ρ : Rho) : List V → List LA → Prop
  | nil : LAsOk K F H σ ρ [] []
  | cons {v vs r rs} : LAOk K F H σ ρ v r → LAsOk K F H σ ρ vs rs → LAsOk K F H σ ρ (v :: vs) (r :: rs)
noncomputable def lNil : M (List LA) := ret []
noncomputable def lD (f : M Rv) (g : M (List LA)) : M (List LA) := bnd f fun x => bnd g fun ls => fun ρ => match x with
  | .d d => some (.ok (.d d :: ls) ρ)
  | _ => none
noncomputable def lP (f : M (Nat × List Nat)) (g : M (List LA)) : M (List LA) := bnd f fun r => bnd g fun ls => ret (.p r :: ls)
noncomputable def lendV (ρ : Rho) : List LA → Option (List PyData)
  | [] => some []
  | .d x :: ls => (lendV ρ ls).map (x :: ·)
  | .p r :: ls => match treeAt ρ r with
    | some (.lst ts) => (match flat ts with
      | some ds => (lendV ρ ls).map (.list ds :: ·)
      | none => none)
    | _ => none
noncomputable def callL (m : Nat) (f : Fn) (ls : List LA) : M Tr := fun ρ => match lendV ρ ls with
  | some ds => if ds.length = m then (match f (ds.map .val) with
    | some (.ret t, _) => if noLt t then some (.ok t ρ) else none
    | _ => none) else none
  | none => none
noncomputable def nLend (m : Nat) (f : Fn) (fs : M (List LA)) : M Tr := bnd fs (callL m f)
section
variable {X : Cx} {T T1 T2 : List Nat} {W : WV} {K : Fg} {pos p : Pos} {e : Expr} {es : List Expr} {fp1 : M (Nat × List Nat)} {fa : M Rv} {fs : M (List LA)}
theorem LAOk.step {F H F1 H1 : Hp} {σ : Sg} {ρ ρ1 : Rho} {fp fp1 : FP} {v : V} (E : EnvOk K F H σ ρ fp) (s : EStep K [] F H σ ρ fp F1 H1 ρ1 fp1) : ∀ {r : LA}, LAOk K F H σ ρ v r → LAOk K F1 H1 σ ρ1 v r
  | .d _, h => dq_mono s.st.fr _ _ h
  | .p r, h => place_step E s (fun z => nomatch z) h
end
section
variable {X : Cx} {W : WV} {k m : Nat} {f : Addr} {fd : FuncData} {ps : List Str} {F : Fn} {x : Str} {p pos : Pos} {e : Expr} {es : List Expr} {fs : M (List LA)}
end
end VL

end

section
set_option Elab.async false
set_option linter.all false
set_option maxRecDepth 100000
set_option maxHeartbeats 1000000
namespace VL
open PySem PySem.Spec PyProof.Rows L2
section
variable {X : Cx} {T T1 T2 : List Nat} {W : WV} {K : Fg} {pos : Pos} {e : Expr}
end
end VL

end

section
set_option Elab.async false
set_option linter.all false
set_option maxRecDepth 100000
set_option maxHeartbeats 1000000
namespace VL
open PySem PySem.Spec PyProof.Rows L2 PySem.W

section
variable {X : Cx} {pins : List (Addr × Obj)} {σ : L2.St} {H : Hp} {s : Shared}
end
section
variable {X : Cx} {te : TE} {e : Expr} {i k : Nat} {c P : Addr} {params : Arguments} {scope : Scope} {p pos lpos kpos p1 p2 p3 p4 p5 p6 p7 p8 p10 : Pos} {k6 k9 : Nat}
end
end VL

end

section
set_option Elab.async false
set_option linter.all false
set_option maxRecDepth 100000
set_option maxHeartbeats 1000000
namespace VL
open PySem PySem.Spec PyProof.Rows L2
section
variable {X : Cx} {T T1 T2 T3 : List Nat} {W : WV} {K : Fg} {fp1 : M (Nat × List Nat)} {fn : M Tr} {fa : M Rv} {o e : Expr} {pos p : Pos}
noncomputable def isAlOf (i : Nat) : Sl → Bool
  | .al k _ => decide (k = i)
  | _ => false
noncomputable def noAl (ρ : Rho) (i : Nat) : Bool := ρ.all fun s => !isAlOf i s
noncomputable def mkAl (j : Nat) (r : Nat × List Nat) (ρ : Rho) : Option Rho := match ρ[r.1]? with
  | some (.own .pin t) => (match t.at r.2, setSl ρ j .no with
    | some _, some ρ1 => if decide (r.1 ≠ j) && noAl ρ1 r.1 then some ((ρ1.set r.1 (.own (.bor r.2) t)).set j (.al r.1 r.2)) else none
    | _, _ => none)
  | _ => none
noncomputable def sAl (j : Nat) (f : M (Nat × List Nat)) : MS := sE f fun r => fun ρ => (mkAl j r ρ).map .nx
noncomputable def pAl (j : Nat) : M (Nat × List Nat) := fun ρ => match ρ[j]? with
  | some (.al i p) => (match ρ[i]? with
    | some (.own (.bor q) _) => if q = p then some (.ok (i, p) ρ) else none
    | _ => none)
  | _ => none
noncomputable def unbor (ρ : Rho) (i : Nat) : Rho := match ρ[i]? with
  | some (.own (.bor _) t) => ρ.set i (.own .pin t)
  | _ => ρ
noncomputable def sEd (i : Nat) (g : MS) : MS := fun ρ => g (unbor ρ i)
noncomputable def modeA (ρ : Rho) (r : Nat × List Nat) : Bool := match ρ[r.1]? with
  | some (.own .lock _) => false
  | some (.own (.bor p) _) => p.isPrefixOf r.2
  | some (.own _ _) => true
  | _ => false
noncomputable def dPutA1 (T2 : List Nat) (d : PyData) (r : Nat × List Nat) (y : Rv) : MS := fun ρ => if T2.contains r.1 || !modeA ρ r then none else match y, treeAt ρ r with
  | .d kd, some (.dk kvs) => (match keyD kd, dats kvs with
    | some k, some ds => if small (ds.length + 1) then some (.nx (putAt ρ r (.dk (toT (putP ds k d))))) else none
    | _, _ => none)
  | _, _ => none
noncomputable def sDPutA (T2 : List Nat) (fe : M Rv) (f : M (Nat × List Nat)) (fk : M Rv) : MS := sE fe fun x => match x with
  | .d d => sE f fun r => sE fk (dPutA1 T2 d r)
  | .o _ => fun _ => none
variable {fe fk : M Rv} {i : Expr} {pos' : Pos} {T4 : List Nat}
end
end VL

end

section
set_option Elab.async false
set_option linter.all false
set_option maxRecDepth 100000
set_option maxHeartbeats 1000000
namespace VL
open PySem PySem.Spec PyProof.Rows L2
noncomputable def isAl : Option Sl → Bool
  | some (.al _ _) => true
  | _ => false
noncomputable def killA (ρ : Rho) (i j : Nat) (t : Tr) : Rho := (ρ.set i (.own .pin t)).set j .no
noncomputable def backA (ρ : Rho) (i : Nat) (p : List Nat) : Option Rho := match ρ[i]? with
  | some (.own _ t) => if noAl ρ i then some (ρ.set i (.own (.bor p) t)) else none
  | _ => none
noncomputable def callK (Ts : List Nat) (m : Nat) (f : Fn) (i j : Nat) (rs : List Rv) : M Tr := fun ρ => match ρ[i]? with
  | some (.own (.bor p) t) => if isAl ρ[j]? then (match callR Ts m f rs (killA ρ i j t) with
    | some (.ok r ρ1) => (match backA ρ1 i p with
      | some ρ2 => some (.ok r ρ2)
      | none => none)
    | some (.ex c ρ1) => (match backA ρ1 i p with
      | some ρ2 => some (.ex c ρ2)
      | none => none)
    | none => none) else none
  | _ => none
section
variable {K : Fg} {F H : Hp} {σ : Sg} {ρ : Rho} {fp : FP} {i j : Nat} {p : List Nat} {t : Tr}
end
section
variable {X : Cx} {T : List Nat} {W : WV} {k m : Nat} {f : Addr} {fd : FuncData} {ps : List Str} {F : Fn} {Ts : List Nat} {i j : Nat}
end
noncomputable def nMethK (c m : Str) (Ts : List Nat) (k : Nat) (G : Fn) (i j : Nat) (fs : M (List Rv)) : M Tr := fun ρ => if isCls c m ρ i then bnd fs (fun xs => callK Ts k G i j (.o i :: xs)) ρ else none
section
variable {X : Cx} {T Ts : List Nat} {W : WV} {k m0 i : Nat} {g : Addr} {fd : FuncData} {ps : List Str} {G : Fn} {x c m m' : Str} {px apos pos : Pos} {e : Expr} {es : List Expr} {fs : M (List Rv)}
end
end VL

end

section
set_option Elab.async false
set_option linter.all false
set_option maxRecDepth 100000
set_option maxHeartbeats 1000000
namespace VL
open PySem PySem.Spec PyProof.Rows L2
section
variable {X : Cx} {T T1 T2 T3 T4 : List Nat} {W : WV} {K : Fg} {fp1 : M (Nat × List Nat)} {fn : M Tr} {fa fk : M Rv} {o e i : Expr} {pos pos' p : Pos}
noncomputable def pKey (T2 : List Nat) (f : M (Nat × List Nat)) (g : M Rv) : M (Nat × List Nat) := bnd f fun r => bnd g fun y => fun ρ => if T2.contains r.1 then none else match treeAt ρ r, y with
  | some (.dk kvs), .d d => (match keyD d with
    | some k => (match keyIx k kvs with
      | some j => some (.ok (r.1, r.2 ++ [j]) ρ)
      | none => none)
    | none => none)
  | _, _ => none
noncomputable def keyT1 (T2 : List Nat) (tn : Tr) (r : Nat × List Nat) (y : Rv) : MS := fun ρ => if T2.contains r.1 || !modeA ρ r then none else match y, treeAt ρ r with
  | .d kd, some (.dk kts) => (match keyD kd with
    | some k => if small (kts.length + 1) && decide ((kts.map (·.1)).Nodup) then some (.nx (putAt ρ r (.dk (putR k tn kts)))) else none
    | none => none)
  | _, _ => none
noncomputable def sKeyT (T2 : List Nat) (g : M Tr) (f : M (Nat × List Nat)) (fk : M Rv) : MS := sE g fun tn => sE f fun r => sE fk (keyT1 T2 tn r)
end
end VL

end

section
set_option Elab.async false
set_option linter.all false
set_option maxRecDepth 100000
set_option maxHeartbeats 1000000
namespace VL
open PySem PySem.Spec PyProof.Rows L2
section
variable {X : Cx} {T T1 T2 T3 T4 : List Nat} {W : WV} {K : Fg} {fp1 : M (Nat × List Nat)} {fn : M Tr} {fa fk : M Rv} {o e i a b : Expr} {pos pos' p : Pos}
noncomputable def shr : Tr → Tr
  | .dat d => .dat d
  | .sd d => .sd d
  | _ => .hole
noncomputable def shrK (kts : List (Key × Tr)) : List (Key × Tr) := kts.map fun p => (p.1, shr p.2)
noncomputable def nCatMv (Ts T2 : List Nat) (f : M (Nat × List Nat)) (g : M Tr) : M Tr := bnd f fun r => bnd g fun tn => fun ρ => if !T2.contains r.1 && (Ts.contains r.1 && modeOk ρ r.1) then (match treeAt ρ r, tn with
  | some (.lst ts), .lst us => if small (ts.length + us.length) then some (.ok (.lst (ts ++ us)) (putAt ρ r .hole)) else none
  | _, _ => none) else none
end
end VL

end

section
set_option Elab.async false
set_option linter.all false
set_option maxRecDepth 100000
set_option maxHeartbeats 1000000
namespace VL
open PySem PySem.Spec PyProof.Rows L2
section
variable {X : Cx} {T T1 T2 T3 T4 : List Nat} {W : WV} {K : Fg} {fp1 : M (Nat × List Nat)} {fn : M Tr} {fa fk : M Rv} {o e i a b : Expr} {pos pos' p : Pos}
noncomputable def copiesM : List Tr → Option (List (List (Key × Tr)))
  | [] => some []
  | .dk kts :: ts => (match copiesM ts with
    | some r => some (kts :: r)
    | none => none)
  | _ :: _ => none
noncomputable def copyM (dss : List (List (Key × Tr))) : List Tr := dss.map fun ds => .dk (shrK ds)
noncomputable def nCopyM (v : Nat) (f : M (Nat × List Nat)) : M Tr := bnd f fun r => fun ρ => match treeAt ρ r with
  | some (.lst ts) => (match copiesM ts with
    | some dss => if decide (v < ρ.length) && small dss.length then some (.ok (.lst (copyM dss)) ρ) else none
    | none => none)
  | _ => none
noncomputable def cCmpP (g : PyData → PyData → Option Bool) (T2 : List Nat) (fa : M Rv) (f : M (Nat × List Nat)) : M Bool := bnd fa fun x => bnd f fun r => fun ρ => match der ρ x, (treeAt ρ r).bind Tr.toD with
  | some a, some b => (match g a b with
    | some z => some (.ok z ρ)
    | none => none)
  | _, _ => none
end
end VL

end

section
set_option Elab.async false
set_option linter.all false
set_option maxRecDepth 100000
set_option maxHeartbeats 1000000
namespace VL
open PySem PySem.Spec PyProof.Rows L2
section
variable {X : Cx} {T T1 T2 T3 T4 : List Nat} {W : WV} {K : Fg} {fp1 : M (Nat × List Nat)} {fn : M Tr} {fa fk : M Rv} {o e i a b : Expr} {pos pos' p : Pos}
noncomputable def nCutMv (Ts T2 : List Nat) (f : M (Nat × List Nat)) (fl fh : M (Option Int)) : M Tr := bnd f fun r => bnd fl fun lo => bnd fh fun hi => fun ρ => if !T2.contains r.1 && (Ts.contains r.1 && modeOk ρ r.1) then (match treeAt ρ r with
  | some (.lst ts) => some (.ok (.lst (cutL ts lo hi)) (putAt ρ r .hole))
  | _ => none) else none
variable {fl fh : M (Option Int)} {lo hi : Option Expr} {p2 : Pos}
noncomputable def nCallP (G : Fn) (f : M (Nat × List Nat)) : M Tr := bnd f fun r => fun ρ => match treeAt ρ r with
  | some t => (match G [.own .lock t] with
    | some (.ret (.dat d), _) => some (.ok (.dat d) ρ)
    | _ => none)
  | none => none
end
end VL

end

section
set_option Elab.async false
set_option linter.all false
set_option maxRecDepth 100000
set_option maxHeartbeats 1000000
namespace VL
open PySem PySem.Spec PyProof.Rows L2
section
variable {X : Cx} {T T1 T2 T3 T4 : List Nat} {W : WV} {K : Fg} {fp1 : M (Nat × List Nat)} {fn : M Tr} {fa fk : M Rv} {o e a b : Expr} {pos pos' p tpos : Pos}
noncomputable def fzP (ρ : Rho) (r : Nat × List Nat) : Option Rho := if modeA ρ r then (match treeAt ρ r with
  | some (.dk kts) => (match dats kts with
    | some ds => some (putAt ρ r (.sd ds))
    | none => none)
  | _ => none) else none
noncomputable def sFzP (f : M (Nat × List Nat)) (g : MS) : MS := fun ρ => match f ρ with
  | some (.ok r _) => (match fzP ρ r with
    | some ρ1 => g ρ1
    | none => none)
  | _ => none
noncomputable def nDictS (f : M (Nat × List Nat)) : M Tr := bnd f fun r => fun ρ => match treeAt ρ r with
  | some (.sd ds) => some (.ok (.dk (toT ds)) ρ)
  | _ => none
noncomputable def lkS (ρ : Rho) (i : Nat) : Option Rho := if modeOk ρ i then (match ρ[i]? with
  | some (.own _ t) => some (ρ.set i (.own .lock t))
  | _ => none) else none
noncomputable def cLk (i : Nat) (f : M Rv) : M Rv := fun ρ => match lkS ρ i with
  | some ρ1 => (match f ρ1 with
    | some (.ok (.d d) ρ2) => (match ρ[i]? with
      | some s => some (.ok (.d d) (ρ2.set i s))
      | none => none)
    | _ => none)
  | none => none
end
end VL

end

section
set_option Elab.async false
set_option linter.all false
set_option maxRecDepth 100000
set_option maxHeartbeats 1000000
namespace VL
open PySem PySem.Spec PyProof.Rows L2
section
variable {X : Cx} {T T1 T2 T3 T4 : List Nat} {W : WV} {K : Fg} {fp1 : M (Nat × List Nat)} {o e a b : Expr} {pos pos' : Pos}
end
end VL

end

section
set_option Elab.async false
set_option linter.all false
set_option maxRecDepth 100000
set_option maxHeartbeats 1000000
namespace VL
open PySem PySem.Spec PyProof.Rows L2
section
variable {K : Fg} {F H : Hp} {σ : Sg} {ρ : Rho} {fp : FP} {jn jo k : Nat} {r : Nat × List Nat} {ρ1 : Rho} {m : Md} {t : Tr}
structure EnIn (K : Fg) (F H : Hp) (σ : Sg) (ρ : Rho) (fp : FP) (jn jo k : Nat) (r : Nat × List Nat) (ρ1 : Rho) (m : Md) (t : Tr) (u v : V) (pre B post : List Addr) (tk : Tr) : Prop where
  hi : ρ[r.1]? = some (.own m t)
  hm : modeOk ρ r.1 = true
  ns : r.1 ≠ jn ∧ r.1 ≠ jo ∧ jn ≠ jo ∧ jn < ρ.length ∧ jo < ρ.length
  nn : (∀ m t, ρ[jn]? ≠ some (.own m t)) ∧ ∀ m t, ρ[jo]? ≠ some (.own m t)
  hu : sg σ r.1 = some u
  hat : t.at (r.2 ++ [k]) = some tk
  hv : pathV H u (r.2 ++ [k]) = some v
  hfp : fp r.1 = pre ++ (B ++ post)
  r1 : ρ1 = ((ρ.set r.1 (.own .lock (t.put (r.2 ++ [k]) .hole))).set jn (.val (.int (k : Nat)))).set jo (.own .pin tk)
  env : EnvOk K F H ((σ.set jn (some (.int (k : Nat)))).set jo (some v)) ρ1 (fset (fset fp r.1 (pre ++ post)) jo B)
  back : ∀ F' H' t'' B', Same F F' → (∀ b, b ∈ pre ∨ b ∈ post → H' b = H b ∧ F' b = none) → TrOk K F' H' v t'' B' → TrOk K F' H' u (t.put (r.2 ++ [k]) t'') (pre ++ (B' ++ post)) ∧ pathV H' u (r.2 ++ [k]) = some v
  hole : TrOk K F H u (t.put (r.2 ++ [k]) .hole) (pre ++ post)
end
section
variable {X : Cx} {T : List Nat} {W : WV} {fp1 : M (Nat × List Nat)} {pos pos' p : Pos}
end
end VL

end

section
set_option Elab.async false
set_option linter.all false
set_option maxRecDepth 100000
set_option maxHeartbeats 1000000
namespace VL
open PySem PySem.Spec PyProof.Rows L2
section
variable {X : Cx} {T : List Nat} {W : WV} {fs : M (List Rv)} {pos : Pos}
noncomputable def sPar (i j : Nat) (fs : M (List Rv)) : MS := sE fs fun rs => fun ρ => match rs with
  | [.d a, .d b] => (match setSl ρ i (.val a) with
    | some ρ1 => (setSl ρ1 j (.val b)).map .nx
    | none => none)
  | _ => none
end
end VL

end

section
set_option Elab.async false
set_option linter.all false
set_option maxRecDepth 100000
namespace SM
open PySem PySem.Spec PyProof.Rows L2 VL
noncomputable def fuel : Nat := 1000000
noncomputable def s_has : Str := ⟨#[104, 97, 115]⟩
theorem e_has : ("has" : Str) = s_has := by decide +kernel
noncomputable def s_owes : Str := ⟨#[111, 119, 101, 115]⟩
theorem e_owes : ("owes" : Str) = s_owes := by decide +kernel
noncomputable def s_nothing : Str := ⟨#[110, 111, 116, 104, 105, 110, 103]⟩
theorem e_nothing : ("nothing" : Str) = s_nothing := by decide +kernel
noncomputable def s_had : Str := ⟨#[104, 97, 100]⟩
theorem e_had : ("had" : Str) = s_had := by decide +kernel
noncomputable def s_owed : Str := ⟨#[111, 119, 101, 100]⟩
theorem e_owed : ("owed" : Str) = s_owed := by decide +kernel
noncomputable def s_left : Str := ⟨#[108, 101, 102, 116]⟩
noncomputable def s_done : Str := ⟨#[100, 111, 110, 101]⟩
noncomputable def s_void : Str := ⟨#[118, 111, 105, 100]⟩
noncomputable def s_Hall : Str := ⟨#[72, 97, 108, 108]⟩
noncomputable def s_past : Str := ⟨#[112, 97, 115, 116]⟩
noncomputable def s_dealt : Str := ⟨#[100, 101, 97, 108, 116]⟩
noncomputable def s_put_up : Str := ⟨#[112, 117, 116, 95, 117, 112]⟩
noncomputable def s_made : Str := ⟨#[109, 97, 100, 101]⟩
noncomputable def s_held : Str := ⟨#[104, 101, 108, 100]⟩
noncomputable def s_offered : Str := ⟨#[111, 102, 102, 101, 114, 101, 100]⟩
noncomputable def s_opened : Str := ⟨#[111, 112, 101, 110, 101, 100]⟩
noncomputable def s_moment : Str := ⟨#[109, 111, 109, 101, 110, 116]⟩
noncomputable def s_start : Str := ⟨#[115, 116, 97, 114, 116]⟩
noncomputable def s_size : Str := ⟨#[115, 105, 122, 101]⟩
noncomputable def s_two : Str := ⟨#[116, 119, 111]⟩
noncomputable def s_cards : Str := ⟨#[99, 97, 114, 100, 115]⟩
noncomputable def s_word : Str := ⟨#[119, 111, 114, 100]⟩
noncomputable def s_end : Str := ⟨#[101, 110, 100]⟩
noncomputable def s_need_bargain : Str := ⟨#[110, 101, 101, 100, 95, 98, 97, 114, 103, 97, 105, 110]⟩
noncomputable def s_need_member : Str := ⟨#[110, 101, 101, 100, 95, 109, 101, 109, 98, 101, 114]⟩
noncomputable def s_signs : Str := ⟨#[115, 105, 103, 110, 115]⟩
noncomputable def s_pass : Str := ⟨#[112, 97, 115, 115]⟩
noncomputable def s_settle : Str := ⟨#[115, 101, 116, 116, 108, 101]⟩
noncomputable def s_consent : Str := ⟨#[99, 111, 110, 115, 101, 110, 116]⟩
noncomputable def s_lower : Str := ⟨#[108, 111, 119, 101, 114]⟩
noncomputable def s_take : Str := ⟨#[116, 97, 107, 101]⟩
noncomputable def s_hold : Str := ⟨#[104, 111, 108, 100]⟩
noncomputable def s_close : Str := ⟨#[99, 108, 111, 115, 101]⟩
noncomputable def s_consents : Str := ⟨#[99, 111, 110, 115, 101, 110, 116, 115]⟩
noncomputable def s_called : Str := ⟨#[99, 97, 108, 108, 101, 100]⟩
noncomputable def s_back : Str := ⟨#[98, 97, 99, 107]⟩
noncomputable def tb_OTHERS : List (Str × PyData) := [(sIn, (.str sOut)), (sOut, (.str sIn)), (sChin, (.str sBrow)), (sBrow, (.str sChin))]
noncomputable def g_is_whole : MS := (sRet (nDat (cAndV (cIsi .int (cVar 0)) (cNotV (cIsi .bool (cVar 0))))))
noncomputable def F_is_whole : Fn := runF 1 g_is_whole
noncomputable def g_is_within : MS := (sRet (nDat (cAndV (cFrz (nCall [0] 1 F_is_whole (aCons (cVar 0) aNil))) (cOf (cChain leD leD (cVar 1) (cVar 0) (cVar 2))))))
noncomputable def F_is_within : Fn := runF 3 g_is_within
noncomputable def g_is_showing : MS := (sSeq (sIf (cOr (cNot (cTest (cIsi .tuple (cVar 0)))) (cOr (cCmp neD (cCall lenD (aCons (cVar 0) aNil)) (cD (.int 2))) (cNot (cTest (cFrz (nCall [] 3 F_is_within (aCons (cBin subD (cVar 0) (cD (.int 0))) (aCons (cD (.int 1)) (aCons (cD (.int 9)) aNil))))))))) (sRet (nDat (cD (.bool false)))) sNil)
  (sRet (nDat (cAndV (cIsi .str (cBin subD (cVar 0) (cD (.int 1)))) (cOf (cCmp inD (cBin subD (cVar 0) (cD (.int 1))) (cD (.tuple [(.str sChin), (.str sBrow)]))))))))
noncomputable def F_is_showing : Fn := runF 1 g_is_showing
noncomputable def g_is_sign : MS := (sSeq (sIf (cOr (cNot (cTest (cIsi .tuple (cVar 0)))) (cOr (cCmp neD (cCall lenD (aCons (cVar 0) aNil)) (cD (.int 4))) (cNot (cTest (cFrz (nCall [] 1 F_is_showing (aCons (cCut (cVar 0) (oSome (cD (.int 2))) oNone) aNil))))))) (sRet (nDat (cD (.bool false)))) sNil)
  (sRet (nDat (cAndV (cIsi .str (cBin subD (cVar 0) (cD (.int 0)))) (cAndV (cOf (cCmp inD (cBin subD (cVar 0) (cD (.int 0))) (cD (.tuple [(.str sIn), (.str sOut)])))) (cFrz (nCall [] 3 F_is_within (aCons (cBin subD (cVar 0) (cD (.int 1))) (aCons (cD (.int 0)) (aCons (cD (.int 9)) aNil))))))))))
noncomputable def F_is_sign : Fn := runF 1 g_is_sign
noncomputable def g_lots_of : MS := (sSeq (sAsg (gT 2 (gsC (gN 1) (gsC (gN 2) gsN))) (cCut (cVar 0) (oSome (cNeg (cD (.int 2)))) oNone))
  (sSeq (sIf (cCmp eqD (cVar 2) (cD (.str sBrow))) (sRet (nDat (cBin mulD (cD (.int 10)) (cVar 1)))) sNil)
  (sRetV 1)))
noncomputable def F_lots_of : Fn := runF 3 g_lots_of
noncomputable def g_other_part : MS := (sSeq (sIf (cTest (cIsi .str (cVar 0))) (sRet (nDat (cTab tb_OTHERS (cVar 0)))) sNil)
  (sSeq (sIf (cCmp eqD (cBin modD (cVar 0) (cD (.int 5))) (cD (.int 0))) (sRet (nDat (cD .none))) sNil)
  (sRet (nDat (cBin modD (cBin addD (cVar 0) (cD (.int 5))) (cD (.int 10)))))))
noncomputable def F_other_part : Fn := runF 1 g_other_part
noncomputable def b_alikes_0 : MS := (sSeq (sSet 4 (cFrz (nCall [3] 1 F_other_part (aCons (cVar 3) aNil))))
  (sIf (cCmp notND (cVar 4) (cD .none)) (sApp [] (pVar 1) (nDat (cBin addD (cBin addD (cCut (cVar 0) oNone (oSome (cVar 2))) (cTup (aCons (cVar 4) aNil))) (cCut (cVar 0) (oSome (cBin addD (cVar 2) (cD (.int 1)))) oNone)))) sNil))
noncomputable def g_alikes : MS := (sSeq (sSetN 1 (nLst aNil))
  (sSeq (sFor (iEnumD (aCons (cVar 0) aNil)) (gT 2 (gsC (gN 2) (gsC (gN 3) gsN))) b_alikes_0)
  (sRetV 1)))
noncomputable def F_alikes : Fn := runF 5 g_alikes
noncomputable def b_stands_0 : MS := (sSeq (sAugIx [] [] (fun i j => i - j) (pVar 2) (cVar 4) (cVar 7))
  (sSeq (sAugIx [] [] (fun i j => i + j) (pVar 3) (cVar 4) (cBin mulD (cVar 6) (cVar 7)))
  (sSeq (sAugIx [] [] (fun i j => i + j) (pVar 2) (cVar 5) (cVar 7))
  (sAugIx [] [] (fun i j => i - j) (pVar 3) (cVar 5) (cBin mulD (cVar 6) (cVar 7))))))
noncomputable def g_stands : MS := (sSeq (sSetN 2 (nRep (cFrz (nLst (aCons (cD (.int 0)) aNil))) (cVar 0)))
  (sSeq (sSetN 3 (nRep (cFrz (nLst (aCons (cD (.int 0)) aNil))) (cVar 0)))
  (sSeq (sFor (iSeq (cVar 1)) (gT 5 (gsC (gN 4) (gsC (gN 5) (gsC (gN 6) (gsC (gN 7) (gsC (gN 8) gsN)))))) b_stands_0)
  (sRet (nListZip (aCons (cVar 2) (aCons (cVar 3) aNil)))))))
noncomputable def F_stands : Fn := runF 9 g_stands
noncomputable def b_deals_of_0 : MS := (sSeq (sIf (cCmp eqD (cVar 4) (cVar 1)) (sApp [] (pVar 2) (nDat (cTup (aCons (cVar 7) (aCons (cVar 5) (aCons (cVar 3) (aCons (cVar 6) (aCons (cD (.int 0)) aNil)))))))) sNil)
  (sIf (cCmp eqD (cVar 3) (cVar 1)) (sApp [] (pVar 2) (nDat (cTup (aCons (cVar 7) (aCons (cVar 5) (aCons (cVar 4) (aCons (cVar 6) (aCons (cD (.int 1)) aNil)))))))) sNil))
noncomputable def g_deals_of : MS := (sSeq (sSetN 2 (nLst aNil))
  (sSeq (sFor (iSeq (cVar 0)) (gT 5 (gsC (gN 3) (gsC (gN 4) (gsC (gN 5) (gsC (gN 6) (gsC (gN 7) gsN)))))) b_deals_of_0)
  (sRet (nDat (cCall sortedD (aCons (cVar 2) aNil))))))
noncomputable def F_deals_of : Fn := runF 8 g_deals_of
noncomputable def b_pieces_0 : MS := (sSeq (sAsg (gT 2 (gsC (gN 11) (gsC (gN 12) gsN))) (cBin subD (cVar 3) (cD (.int 0))))
  (sSeq (sSet 13 (cCall min2D (aCons (cVar 12) (aCons (cVar 8) aNil))))
  (sSeq (sApp [] (pVar 2) (nDat (cTup (aCons (cVar 11) (aCons (cVar 6) (aCons (cVar 13) (aCons (cVar 10) aNil)))))))
  (sSeq (sAug 8 (fun i j => i - j) (cVar 13))
  (sSetN 3 (nCat (cBin repD (cFrz (nLst (aCons (cTup (aCons (cVar 11) (aCons (cBin subtD (cVar 12) (cVar 13)) aNil))) aNil))) (cCall intD (aCons (cOf (cCmp gtD (cVar 12) (cVar 13))) aNil))) (cCut (cVar 3) (oSome (cD (.int 1))) oNone)))))))
noncomputable def b_pieces_1 : MS := (sSeq (sSet 10 (cBin subD (cFrz (nLst (aCons (cD (.str s_owed)) (aCons (cD (.str s_had)) aNil)))) (cVar 9)))
  (sSeq (sWhile fuel (cAnd (cCmp gtD (cVar 8) (cD (.int 0))) (cAnd (cCmp neD (cVar 3) (cFrz (nLst aNil))) (cCmp eqD (cVar 4) (cVar 9)))) b_pieces_0)
  (sIf (cCmp gtD (cVar 8) (cD (.int 0))) (sSeq (sSet 4 (cBin subtD (cD (.int 1)) (cVar 9)))
  (sApp [] (pVar 3) (nDat (cTup (aCons (cVar 6) (aCons (cVar 8) aNil)))))) sNil)))
noncomputable def g_pieces : MS := (sSeq (sSetN 2 (nLst aNil))
  (sSeq (sSetN 3 (nLst aNil))
  (sSeq (sSet 4 (cD (.int 0)))
  (sSeq (sFor (iSeq (cFrz (nCall [0, 1] 2 F_deals_of (aCons (cVar 0) (aCons (cVar 1) aNil))))) (gT 5 (gsC (gN 5) (gsC (gN 6) (gsC (gN 7) (gsC (gN 8) (gsC (gN 9) gsN)))))) b_pieces_1)
  (sSeq (sIf (cCmp eqD (cVar 3) (cFrz (nLst aNil))) (sRet (nTupT (tConsM (nMv 2) (tConsM (nTupT (tConsM (nDat (cD (.str s_nothing))) (tConsM (nLst aNil) tNilM))) tNilM)))) sNil)
  (sRet (nTupT (tConsM (nMv 2) (tConsM (nTupT (tConsM (nDat (cBin subD (cFrz (nLst (aCons (cD (.str s_owes)) (aCons (cD (.str s_has)) aNil)))) (cVar 4))) (tConsM (nMv 3) tNilM))) tNilM)))))))))
noncomputable def F_pieces : Fn := runF 14 g_pieces
noncomputable def b__law_small_deals_0 : MS := (sSeq (sSet 5 (cFrz (nCall [0, 1] 2 fTake (aCons (cVar 0) (aCons (cVar 1) aNil)))))
  (sSeq (sSet 6 (cBin modD (cBin addD (cBin addD (cVar 5) (cD (.int 1))) (cFrz (nCall [0] 2 fTake (aCons (cVar 0) (aCons (cBin subtD (cVar 1) (cD (.int 1))) aNil))))) (cVar 1)))
  (sApp [0, 0, 0] (pVar 3) (nDat (cTup (aCons (cVar 5) (aCons (cVar 6) (aCons (cBin addD (cD (.int 100)) (cFrz (nCall [0] 2 fTake (aCons (cVar 0) (aCons (cD (.int 4)) aNil))))) (aCons (cBin addD (cD (.int 1)) (cFrz (nCall [0] 2 fTake (aCons (cVar 0) (aCons (cD (.int 6)) aNil))))) (aCons (cFrz (nCall [0] 2 fTake (aCons (cVar 0) (aCons (cD (.int 5)) aNil)))) aNil))))))))))
noncomputable def g__law_small_deals : MS := (sSeq (sSetN 3 (nLst aNil))
  (sSeq (sFor (iRange1 (aCons (cFrz (nCall [0] 2 fTake (aCons (cVar 0) (aCons (cBin addD (cVar 2) (cD (.int 1))) aNil)))) aNil)) (gN 4) b__law_small_deals_0)
  (sRetV 3)))
noncomputable def F__law_small_deals : Fn := runF 7 g__law_small_deals
noncomputable def b_gain_0 : MS := (sAug 5 (fun i j => i + j) (cBin mulD (cBin mulD (cBin subtD (cVar 2) (cVar 6)) (cVar 8)) (cBin subtD (cD (.int 1)) (cBin mulD (cD (.int 2)) (cCall intD (aCons (cOf (cCmp eqD (cBin subD (cVar 4) (cD (.int 0))) (cD (.str s_owes)))) aNil))))))
noncomputable def b_gain_1 : MS := (sAug 5 (fun i j => i + j) (cBin mulD (cBin mulD (cBin subtD (cVar 7) (cVar 6)) (cVar 8)) (cBin subtD (cD (.int 1)) (cBin mulD (cD (.int 2)) (cCall intD (aCons (cOf (cCmp eqD (cVar 9) (cD (.str s_owed)))) aNil))))))
noncomputable def g_gain : MS := (sSeq (sAsg (gT 2 (gsC (gN 3) (gsC (gN 4) gsN))) (cFrz (nCall [0, 1] 2 F_pieces (aCons (cVar 0) (aCons (cVar 1) aNil)))))
  (sSeq (sSet 5 (cD (.int 0)))
  (sSeq (sFor (iSeq (cVar 3)) (gT 4 (gsC (gN 6) (gsC (gN 7) (gsC (gN 8) (gsC (gN 9) gsN))))) b_gain_1)
  (sSeq (sFor (iSeq (cBin subD (cVar 4) (cD (.int 1)))) (gT 2 (gsC (gN 6) (gsC (gN 8) gsN))) b_gain_0)
  (sRetV 5)))))
noncomputable def F_gain : Fn := runF 10 g_gain
noncomputable def b_sums_of_0 : MS := (sSet 1 (cBin addD (cVar 1) (cFrz (nComp (iSeq (cVar 1)) [3] (gN 3) tYesM (cBin addD (cVar 3) (cVar 2))))))
noncomputable def g_sums_of : MS := (sSeq (sSet 1 (cFrz (nLst (aCons (cD (.int 0)) aNil))))
  (sSeq (sFor (iSeq (cVar 0)) (gN 2) b_sums_of_0)
  (sRetV 1)))
noncomputable def F_sums_of : Fn := runF 4 g_sums_of
noncomputable def g_Hall_need_member : MS := (sIf (cOr (cCmp ltD (cVar 1) (cD (.int 0))) (cCmp geD (cVar 1) (cLeaf (pFld s_Hall s_size (pVar 0))))) (sRaise s_NoMember) sNil)
noncomputable def F_Hall_need_member : Fn := runF 2 g_Hall_need_member
noncomputable def g_Hall_need_bargain : MS := (sIf (cOr (cCmp ltD (cVar 1) (cD (.int 0))) (cCmp geD (cVar 1) (cLenP (pFld s_Hall s_made (pVar 0))))) (sRaise s_NoBargain) sNil)
noncomputable def F_Hall_need_bargain : Fn := runF 2 g_Hall_need_bargain
noncomputable def g_Hall_need_theirs : MS := (sSeq (sDrop (cFrz (nMeth s_Hall s_need_member [0, 1] 2 F_Hall_need_member 0 (aCons (cVar 1) aNil))))
  (sSeq (sDrop (cFrz (nMeth s_Hall s_need_bargain [0, 2] 2 F_Hall_need_bargain 0 (aCons (cVar 2) aNil))))
  (sIf (cCmp notInD (cVar 1) (cDGet [] (pIx [] (pFld s_Hall s_made (pVar 0)) (cVar 2)) (cD (.str s_two)))) (sRaise s_NotTheirs) sNil)))
noncomputable def F_Hall_need_theirs : Fn := runF 3 g_Hall_need_theirs
end SM

end

section
set_option Elab.async false
set_option linter.all false
set_option maxRecDepth 100000
set_option maxHeartbeats 1000000
namespace VL
open PySem PySem.Spec PyProof.Rows L2
noncomputable def rEmpD : R2 := fun x y H Q => ∃ a b ks, x = .ref a ∧ y = .ref b ∧ H a = some (.dK ks) ∧ H b = some (.dK []) ∧ Q (.bl ks.isEmpty) H
section
variable {X : Cx} {T T1 T2 : List Nat} {W : WV} {K : Fg} {pos p : Pos} {a b e : Expr} {fp1 : M (Nat × List Nat)} {fn : M Tr}
theorem op_eqD (hu : X.A.units < cLine) : OpR X (compareOp .Eq) rEmpD := by
  intro pins s σ H x y v u Q I rx ry h
  obtain ⟨a, b, ks, rfl, rfl, ea, eb, q⟩ := h
  obtain rfl : v = Value.ref a := rx
  obtain rfl : u = Value.ref b := ry
  obtain ⟨_, ya, va, ra, da⟩ := (show ObjOk X.prog X.w H s.heap a (.dK ks) from I.hok a _ ea)
  obtain ⟨_, yb, vb, rb, db⟩ := (show ObjOk X.prog X.w H s.heap b (.dK []) from I.hok b _ eb)
  have lb : vb.length = 0 := by rw [← rb.length]; rfl
  have la : ks.length = va.length := ra.length
  cases va with
  | nil =>
    have ek : ks = [] := List.eq_nil_of_length_eq_zero (by simpa using la)
    subst ek
    exact PySem.W.keq_eq (knd := mixKind X.prog X.w) (r := true) ya yb da db hu (fun _ => .nil) (fin_bl I q (by simp [lb]))
  | cons c cs =>
    have ek : ks.isEmpty = false := by
      cases ks with
      | nil => simp at la
      | cons _ _ => rfl
    rw [ek] at q
    exact PySem.W.keq_eq (knd := mixKind X.prog X.w) (r := true) ya yb da db hu (fun z => by rw [lb] at z; simp at z) (fin_bl I q (by simp [lb]))
end
end VL

end

section
set_option Elab.async false
set_option linter.all false
set_option maxRecDepth 100000
set_option maxHeartbeats 1000000
namespace VL
open PySem PySem.Spec PyProof.Rows L2
section
variable {X : Cx} {T T1 T2 : List Nat} {W : WV} {K : Fg} {pos : Pos} {fp1 : M (Nat × List Nat)}
end
end VL

end

section
set_option Elab.async false
set_option linter.all false
set_option maxRecDepth 100000
namespace SN
open PySem PySem.Spec PyProof.Rows L2 VL SM SN
end SN

end

section
set_option Elab.async false
set_option linter.all false
set_option maxRecDepth 100000
namespace VLS
open PySem PySem.Spec PyProof.Rows L2
section
variable {P : Program} {w : World} {A : Around} {E : Value → Shared → Prop} {s : Shared}
end
end VLS
namespace VL
open PySem PySem.Spec PyProof.Rows L2
section
variable {P : Program} {w : World} {A : Around} {E : Value → Shared → Prop} {s : Shared}
end
section
variable {X : Cx} {T T1 T2 : List Nat} {W : WV} {K : Fg} {pos : Pos}
end
end VL

end

section
set_option Elab.async false
set_option linter.all false
set_option maxRecDepth 100000
namespace VLK
open PySem PySem.Spec PyProof.Rows L2
section
variable {P : Program} {w : World} {A : Around} {E : Value → Shared → Prop} {s : Shared}
noncomputable abbrev TupK (P : Program) (w : World) (h : Heap) (k : List L2.Key) (b : Addr) : Prop := IsTupleKey (mixKind P w) h k b
noncomputable abbrev hashK (P : Program) (w : World) (k : List L2.Key) : Int := tupleKeyHash (mixKind P w) k
noncomputable abbrev Rw := Addr × List L2.Key
noncomputable def ent (P : Program) (w : World) (p : Rw) : Int × Value := (hashK P w p.2, Value.ref p.1)
structure SetK (P : Program) (w : World) (h : Heap) (a : Addr) (L : List Rw) (es : Array (Int × Value)) (ep : Nat) (t : SetTable) : Prop where
  ob : ∃ o, h.get? a = some o ∧ o.ExactSet ∧ o.data = .set es ep t
  rows : es.toList = L.map (ent P w)
  tab : TabOk t (L.map fun p => hashK P w p.2)
  tup : ∀ p ∈ L, TupK P w h p.2 p.1
  led : w.params.followText "set-order" = true ∨ t.led = true
  room : L.length * 5 < t.mask * 3
variable {a : Addr} {L : List Rw} {es : Array (Int × Value)} {ep : Nat} {t : SetTable}
end
end VLK

end

section
set_option Elab.async false
set_option linter.all false
set_option maxRecDepth 100000
namespace VLK
open PySem PySem.Spec PyProof.Rows L2
section
variable {P : Program} {w : World} {A : Around} {E : Value → Shared → Prop} {s : Shared}
end
end VLK

end

section
set_option Elab.async false
set_option linter.all false
set_option maxRecDepth 100000
namespace VLK
open PySem PySem.Spec PyProof.Rows L2
section
variable {P : Program} {w : World} {A : Around} {E : Value → Shared → Prop} {s : Shared}
end
end VLK

end

section
set_option Elab.async false
set_option linter.all false
set_option maxRecDepth 100000
namespace VLK
open PySem PySem.Spec PyProof.Rows L2
section
variable {X : Cx}
end
end VLK
namespace VL
open PySem PySem.Spec PyProof.Rows L2
section
variable {X : Cx} {T : List Nat} {W : WV} {K : Fg}
end
end VL

end

section
set_option Elab.async false
set_option linter.all false
set_option maxRecDepth 100000
namespace VL
open PySem PySem.Spec PyProof.Rows L2
noncomputable def intRow : PyData → Option (List Int)
  | .tuple xs => intsD xs
  | _ => none
noncomputable def intRows : List PyData → Option (List (List Int))
  | [] => some []
  | d :: ds => match intRow d, intRows ds with
    | some k, some ks => some (k :: ks)
    | _, _ => none
noncomputable def uniq : List (List Int) → List (List Int)
  | [] => []
  | x :: xs => if x ∈ xs then uniq xs else x :: uniq xs
theorem mem_uniq {x : List Int} : ∀ {xs : List (List Int)}, x ∈ uniq xs ↔ x ∈ xs
  | [] => Iff.rfl
  | y :: xs => by
    unfold uniq
    split
    · rename_i h
      rw [mem_uniq, List.mem_cons]
      exact ⟨.inr, fun z => z.elim (fun e => e ▸ h) id⟩
    · rw [List.mem_cons, List.mem_cons, mem_uniq]
theorem uniq_nodup : ∀ xs : List (List Int), (uniq xs).Nodup
  | [] => List.nodup_nil
  | y :: xs => by
    unfold uniq
    split
    · exact uniq_nodup xs
    · rename_i h
      exact List.nodup_cons.mpr ⟨fun z => h (mem_uniq.mp z), uniq_nodup xs⟩
theorem uniq_le : ∀ xs : List (List Int), (uniq xs).length ≤ xs.length
  | [] => Nat.le_refl _
  | y :: xs => by
    unfold uniq
    have := uniq_le xs
    split
    · rw [List.length_cons]; omega
    · rw [List.length_cons, List.length_cons]; omega
theorem uniq_all : ∀ {xs : List (List Int)}, (uniq xs).length = xs.length ↔ xs.Nodup
  | [] => by simp [uniq]
  | y :: xs => by
    have le := uniq_le xs
    unfold uniq
    split
    · rename_i h
      rw [List.length_cons, List.nodup_cons]
      exact ⟨fun z => by omega, fun z => absurd h z.1⟩
    · rename_i h
      rw [List.length_cons, List.length_cons, List.nodup_cons, Nat.add_right_cancel_iff, uniq_all]
      exact ⟨fun z => ⟨h, z⟩, fun z => z.2⟩
section
variable {X : Cx} {T : List Nat} {W : WV} {K : Fg}
theorem uniq_of {L ks : List (Addr × List Int)} (nd : (L.map (·.2)).Nodup) (h1 : ∀ p ∈ L, p ∈ ks) (h2 : ∀ p ∈ ks, p.2 ∈ L.map (·.2)) : L.length = (uniq (ks.map (·.2))).length := by
  have : (L.map (·.2)).Perm (uniq (ks.map (·.2))) := (List.perm_ext_iff_of_nodup nd (uniq_nodup _)).mpr fun a => by
    rw [mem_uniq, List.mem_map, List.mem_map]
    refine ⟨fun ⟨p, hp, e⟩ => ⟨p, h1 p hp, e⟩, fun ⟨p, hp, e⟩ => ?_⟩
    have := h2 p hp
    rw [e] at this
    obtain ⟨q, hq, e2⟩ := List.mem_map.mp this
    exact ⟨q, hq, e2⟩
  simpa using this.length_eq
noncomputable def tLenSetJ (K : PySem.W.Frag) (ta : TE) : TE := fun σ H Q => ta σ H fun x H1 => ∃ (l : Addr) (ks : List (Addr × List Int)), x = V.ref l ∧ SqL K H1 l (ks.map fun p => V.ref p.1) ∧ (∀ p ∈ ks, SqT K H1 p.1 (p.2.map V.int)) ∧ ks.length < 64 ∧ Q (.int (uniq (ks.map (·.2))).length) H1
theorem pe_lenSetJ {a : Expr} {ta : TE} {p p2 q pos : Pos} (hc : X.calm = true) (hu : X.A.units + 64 < cLine) (hg : Gl X "len") (hm : X.mg "len" = none) (hg2 : Gl X "set") (hm2 : X.mg "set" = none) (ha : PE X a ta)
    (na : starEach [a] X.env = (false, eval a X.env) :: starEach [] X.env := by rfl) : PE X (.Call (.Name "len" p) [.Call (.Name "set" p2) [a] [] q] [] pos) (tLenSetJ X.K ta) := by
  refine ⟨fun pins s σ H Q I h => ?_⟩
  refine Call_ (ld_blt I hg hm PySem.boot_len ?_)
  refine PyProof.Rows.callWith_builtin1 (PyProof.Rows.args_cons ?_ rfl) rfl rfl
  refine Call_ (ld_blt I hg2 hm2 PyProof.Rows.boot_set ?_)
  refine PyProof.Rows.callWith_type1 (PyProof.Rows.args_cons (thn (ha.run pins s σ H _ I h) fun v s1 ⟨x, H1, I1, r1, q1⟩ => PyProof.Rows.args_nil ?_) na) na rfl
  obtain ⟨l, ks, rfl, hq, ht, few, q1⟩ := q1
  cases r1
  obtain ⟨its, r, pl, hz⟩ := I1.list hq
  refine call_set_tups (P := X.prog) (w := X.w) ks (I1.ok.hd hc) pl.isList (by simpa using refs_of_vals r) (fun p hp => I1.isT (ht p hp)) few (by omega) fun h' tk L es ep t R g hk => ?_
  refine PyProof.Rows.args_nil ?_
  have I2 : Inv X pins σ H1 { s1 with heap := h', toks := tk } := I1.kept fun b o e => hk b o e
  have fit := SetTR.fits (s := { s1 with heap := h', toks := tk }) R
  obtain ⟨o, ho, hex, hd⟩ := R.ob
  have hn : es.size = (uniq (ks.map (·.2))).length := by
    rw [SetTR.size (s := { s1 with heap := h', toks := tk }) R]
    exact uniq_of R.nd (fun p hp => List.mem_of_mem_take (g.sub p hp)) fun p hp => g.all p (by rw [List.take_length]; exact hp)
  have hle : es.size < 64 := by
    have := uniq_le (ks.map (·.2))
    rw [List.length_map] at this
    omega
  refine call_len_set ho hex hd fit (by omega) ⟨.int (uniq (ks.map (·.2))).length, H1, I2.tok _, ⟨_, by rw [hn]⟩, q1⟩
theorem irows_vs {F H : Hp} (s : Same F H) : ∀ {ds : List PyData} {vs : List V} {ks : List (List Int)}, DqAll K F vs ds → intRows ds = some ks → ∃ rs : List (Addr × List Int), vs = rs.map (fun p => V.ref p.1) ∧ rs.map (·.2) = ks ∧ ∀ p ∈ rs, SqT K H p.1 (p.2.map V.int)
  | [], _, ks, .nil, e => by
    simp only [intRows] at e
    cases e
    exact ⟨[], rfl, rfl, fun _ h => nomatch h⟩
  | d :: ds, _, ks, .cons h t, e => by
    simp only [intRows] at e
    split at e
    · rename_i k ks' h1 h2
      cases e
      obtain ⟨rs, rfl, rfl, hr⟩ := irows_vs s t h2
      cases d with
      | tuple xs =>
        obtain ⟨a, us, rfl, sq, ha, _⟩ := DpS.tup s (.inl h)
        have ev := ints_ok ha h1
        subst ev
        exact ⟨(a, k) :: rs, rfl, rfl, fun p hp => by
          rcases List.mem_cons.mp hp with z | z
          · rw [z]; exact sq
          · exact hr p z⟩
      | _ => cases h1
    · cases e
noncomputable def cLenSetI (f : M Rv) : M Rv := bnd f fun x => fun ρ => match derS ρ x with
  | some (.list ds) => (match intRows ds with
    | some ks => if ks.length < 64 then some (.ok (.d (.int ((uniq ks).length : Nat))) ρ) else none
    | none => none)
  | _ => none
theorem ve_lenSetI {e : Expr} {fa : M Rv} {p p2 pos q : Pos} (hc : X.calm = true) (hu : X.A.units + 64 < cLine) (hg : Gl X "len") (hm : X.mg "len" = none) (hg2 : Gl X "set") (hm2 : X.mg "set" = none) (ha : VE X T W e fa)
    (na : starEach [e] X.env = (false, eval e X.env) :: starEach [] X.env := by rfl) : VE X T W (.Call (.Name "len" p) [.Call (.Name "set" p2) [e] [] q] [] pos) (cLenSetI fa) :=
  pe_imp (pe_lenSetJ hc hu hg hm hg2 hm2 ha na) fun σ H Q ⟨F, ρ, fp, o, E, q, P⟩ => by
    refine tv_bnd E q P (fun i hi => hi) fun r ρ1 v H1 F1 fp1 s1 r1 e1 P1 => ?_
    split at e1
    · rename_i ds hd
      split at e1
      · rename_i ks hk
        split at e1
        · rename_i hl
          cases ok_inj e1
          obtain ⟨a, vs, rfl, h1, h2⟩ := (derS_ok s1.env r1 hd).list s1.env.sub
          obtain ⟨rs, rfl, rfl, hr⟩ := irows_vs s1.env.sub h2 hk
          refine ⟨a, rs, rfl, .inl h1, hr, by rwa [List.length_map] at hl, ?_⟩
          exact P1 _ H1 F1 fp1 (.refl s1.env) (.int _)
        · cases e1
      · cases e1
    · cases e1
end
end VL

end

section
set_option Elab.async false
set_option linter.all false
set_option maxRecDepth 100000
namespace VL
open PySem PySem.Spec PyProof.Rows L2 PySem.W
noncomputable abbrev KK := Key ⊕ List Key
noncomputable def kkD : KK → PyData
  | .inl k => keyPD k
  | .inr k => keyTD k
noncomputable def KkAt (H : Hp) : KK → V → Prop
  | .inl k, v => v = kV k
  | .inr k, v => ∃ q, v = .ref q ∧ H q = some (.tup (k.map kV))
noncomputable def EntsAt (H : Hp) (a : Addr) (bs : List (KK × V)) : Prop :=
  (∃ kvs : List (Key × V), H a = some (.dK kvs) ∧ bs = kvs.map fun p => (.inl p.1, p.2)) ∨ ∃ kvs : List (List Key × V), H a = some (.dT kvs) ∧ bs = kvs.map fun p => (.inr p.1, p.2)
theorem prd_at {α β : Type} {F : α → β → Prop} {x : α} : ∀ {l₁ : List α} {l₂ : List β} {j : Nat}, Paired F l₁ l₂ → l₁[j]? = some x → ∃ y, l₂[j]? = some y ∧ F x y
  | _, _, j, .nil, h => by simp at h
  | _, _, 0, .cons (b := y) f _, h => by
    rw [List.getElem?_cons_zero] at h
    cases h
    exact ⟨y, rfl, f⟩
  | _, _, j + 1, .cons _ t, h => by
    rw [List.getElem?_cons_succ] at h ⊢
    exact prd_at t h
theorem prs_at {P : Program} {w : World} {x : Key × Value} : ∀ {l₁ : List DictEntry} {l₂ : List (Key × Value)} {j : Nat}, Pairs (mixKind P w) l₁ l₂ → l₂[j]? = some x → ∃ e, l₁[j]? = some e ∧ (mixKind P w).is x.1 e.key = true ∧ e.val = x.2
  | _, _, j, .nil, h => by simp at h
  | _, _, 0, .cons (e := y) f g _, h => by
    rw [List.getElem?_cons_zero] at h
    cases h
    exact ⟨y, rfl, f, g⟩
  | _, _, j + 1, .cons _ _ t, h => by
    rw [List.getElem?_cons_succ] at h ⊢
    exact prs_at t h
section
variable {X : Cx} {K : Fg}
theorem rel_key {k : Key} {v : Value} (h : keyIs k v = true) : RelV (kV k) v := by
  rcases keyIs_shape h with ⟨i, t, rfl, rfl⟩ | ⟨x, t, rfl, rfl⟩
  · exact ⟨t, rfl⟩
  · exact ⟨t, rfl⟩
theorem ents_raw {pins : List (Addr × Obj)} {σ : Sg} {H : Hp} {s : Shared} {a : Addr} {bs : List (KK × V)} (I : L2.Inv X pins σ H s) (h : EntsAt H a bs) : (a == sysModules) = false ∧ bs.length ≤ sizeLine ∧
    ∃ es ep, DT.Raw s.heap a es ep ∧ es.size = bs.length ∧ ∀ (j : Nat) (b : KK × V), bs[j]? = some b → ∃ (e : DictEntry) (kv : V), es[j]? = some e ∧ KkAt H b.1 kv ∧ RelV kv e.key ∧ RelV b.2 e.val := by
  rcases h with ⟨kvs, ha, rfl⟩ | ⟨kvs, ha, rfl⟩
  · obtain ⟨z, hd, vs, rel, o, es, ep, ho, hx, hdat, _, prs, _⟩ := dk_of I.hok ha
    have l1 := Paired.length rel
    have l2 := Pairs.length prs
    rw [Array.length_toList] at l2
    refine ⟨hd, by rw [List.length_map]; exact z, es, ep, ⟨o, ho, hx, hdat⟩, by rw [List.length_map]; omega, fun j b hb => ?_⟩
    rw [List.getElem?_map] at hb
    cases hk : kvs[j]? with
    | none => rw [hk] at hb; cases hb
    | some p =>
      rw [hk] at hb
      cases hb
      obtain ⟨q, hq, e1, e2⟩ := prd_at rel hk
      obtain ⟨e, he, g1, g2⟩ := prs_at prs hq
      refine ⟨e, kV p.1, by rw [← Array.getElem?_toList]; exact he, rfl, ?_, by rw [g2]; exact e2⟩
      rw [← e1] at g1
      exact rel_key g1
  · obtain ⟨z, hd, xs, rel, o, es, ep, ho, hx, hdat, hes, _, _⟩ := dt_of I.hok ha
    have l1 := Paired.length rel
    have l2 : es.size = xs.length := size_of_entries hes
    refine ⟨hd, by rw [List.length_map]; exact z, es, ep, ⟨o, ho, hx, hdat⟩, by rw [List.length_map]; omega, fun j b hb => ?_⟩
    rw [List.getElem?_map] at hb
    cases hk : kvs[j]? with
    | none => rw [hk] at hb; cases hb
    | some p =>
      rw [hk] at hb
      cases hb
      obtain ⟨q, hq, e1, e2, e3⟩ := prd_at rel hk
      refine ⟨entryOfKey (tupleKind (mixKind X.prog X.w)) q, .ref q.2.1, by rw [entry_at hes j, hq]; rfl, ⟨q.2.1, rfl, e2⟩, rfl, e3⟩
noncomputable def rItemsD : V → List V → Hp → VK → Prop := fun x xs H Q => ∃ (a : Addr) (bs : List (KK × V)), x = .ref a ∧ xs = [] ∧ EntsAt H a bs ∧ ∀ p, H p = none → Q (.ref p) (upd H p (DX.itemsO p a))
theorem mt_itemsD : MtR X "dict.items" rItemsD := by
  intro pins s σ H x xs v us Q I rx rxs h
  obtain ⟨a, bs, rfl, rfl, ha, q⟩ := h
  cases rx
  cases rxs
  obtain ⟨hd, _, es, ep, hr, _, _⟩ := ents_raw I ha
  refine DT.callItems (es := es) (ep := ep) hd hr ?_
  have hf : H s.heap.objs.size = none := I.hok.fresh (Nat.le_refl _)
  refine ⟨.ref s.heap.objs.size, upd H s.heap.objs.size (DX.itemsO s.heap.objs.size a), I.laid (t' := s.toks) (fun b ob q => Heap.get?_push_of_some _ q) (Nat.le_refl _) (DX.itemsO_ok (Heap.get?_push_size _ rfl)), rfl, q _ hf⟩
mutual
theorem reads_there {h : Heap} : ∀ {v : Value} {d : PyData} {as : List Addr}, Reads h v d as → ∀ a ∈ as, h.get? a ≠ none
  | _, _, _, .none, _, z => nomatch z
  | _, _, _, .bool _, _, z => nomatch z
  | _, _, _, .int _ _, _, z => nomatch z
  | _, _, _, .str _ _, _, z => nomatch z
  | _, _, _, .list h1 _ _ h2, b, hb => by
    rcases List.mem_cons.mp hb with e | hb
    · rw [e, h1]; exact fun z => nomatch z
    · exact reads_thereAll h2 b hb
  | _, _, _, .tuple _ _ _ h2, b, hb => reads_thereAll h2 b hb
  | _, _, _, .dict h1 _ _ h2 h3, b, hb => by
    rcases List.mem_append.mp hb with hb | hb
    · rcases List.mem_cons.mp hb with e | hb
      · rw [e, h1]; exact fun z => nomatch z
      · exact reads_thereAll h2 b hb
    · exact reads_thereAll h3 b hb
theorem reads_thereAll {h : Heap} : ∀ {vs : List Value} {ds : List PyData} {as : List Addr}, ReadsAll h vs ds as → ∀ a ∈ as, h.get? a ≠ none
  | _, _, _, .nil, _, z => nomatch z
  | _, _, _, .cons h1 h2, b, hb => by
    rcases List.mem_append.mp hb with hb | hb
    · exact reads_there h1 b hb
    · exact reads_thereAll h2 b hb
end
theorem dp_keys {H : Hp} : ∀ (k : List Key), DpAll K H (k.map kV) (k.map keyPD)
  | [] => .nil
  | .inl i :: k => .cons (.int i) (dp_keys k)
  | .inr x :: k => .cons (.str x) (dp_keys k)
theorem kk_dp {H : Hp} {v : V} : ∀ {k : KK}, KkAt H k v → Dp K H v (kkD k)
  | .inl (.inl i), h => by cases h; exact .int i
  | .inl (.inr x), h => by cases h; exact .str x
  | .inr k, ⟨q, e, h⟩ => by subst e; exact .tup (SqT.of h) (dp_keys k)
theorem picks {α : Type} {P : Nat → α → Prop} : ∀ n, (∀ j, j < n → ∃ x, P j x) → ∃ l : List α, l.length = n ∧ ∀ j x, l[j]? = some x → P j x
  | 0, _ => ⟨[], rfl, fun j x h => by simp at h⟩
  | n + 1, h => by
    obtain ⟨l, e, g⟩ := picks n fun j hj => h j (Nat.lt_succ_of_lt hj)
    obtain ⟨x, hx⟩ := h n (Nat.lt_succ_self n)
    refine ⟨l ++ [x], by rw [List.length_append, e]; rfl, fun j y hy => ?_⟩
    by_cases z : j < n
    · rw [List.getElem?_append_left (by omega)] at hy
      exact g j y hy
    · rw [List.getElem?_append_right (by omega)] at hy
      have : j - l.length = 0 := by
        by_cases q : j - l.length = 0
        · exact q
        · rw [List.getElem?_eq_none (by simp; omega)] at hy; cases hy
      rw [this] at hy
      cases hy
      have : j = n := by omega
      subst this
      exact hx
noncomputable abbrev En := (KK × V) × PyData
noncomputable def pairD (b : En) : PyData := .tuple [kkD b.1.1, b.2]
noncomputable def rSortIt2 (K : Fg) : List V → Hp → VK → Prop := fun xs H Q => ∃ (p a : Addr) (bs : List En), xs = [.ref p] ∧ H p = some (DX.itemsO p a) ∧ EntsAt H a (bs.map (·.1)) ∧ (∀ b ∈ bs, Dp K H b.1.2 b.2 ∧ (pairD b).depth ≤ 60) ∧ AllAlike (bs.map pairD) ∧ Sortable (bs.map pairD) ∧
  ∀ (H' : Hp) (l : Addr) (zs : List ((Addr × V) × En)), Same H H' → H l = none → H' l = some (.lst (zs.map fun z => .ref z.1.1)) → zs.map (·.2) = bs.mergeSort (dataLe false pairD) →
    (∀ z ∈ zs, H z.1.1 = none ∧ KkAt H z.2.1.1 z.1.2 ∧ H' z.1.1 = some (.tup [z.1.2, z.2.1.2])) → Q (.ref l) H'
theorem each_is {α β : Type} (f : β → α) : ∀ {as : List α} {bs : List β}, EachIs (fun a b => a = f b) as bs → as = bs.map f
  | _, _, .nil => rfl
  | _, _, .cons h t => by rw [h, each_is f t]; rfl
theorem each_all {α β : Type} {R : α → β → Prop} {f : β → α} : ∀ {bs : List β}, (∀ b ∈ bs, R (f b) b) → EachIs R (bs.map f) bs
  | [], _ => .nil
  | b :: bs, h => .cons (h b List.mem_cons_self) (each_all fun c hc => h c (List.mem_cons_of_mem _ hc))
set_option maxHeartbeats 2000000 in
theorem cr_sortIt (hc : X.calm = true) (hu : X.A.units + 65 < cLine) : CallR X (.builtin "sorted") (rSortIt2 X.K) := by
  intro pins s σ H xs us Q I r h
  obtain ⟨p, a, bs, rfl, hp, ha, hb, hal, hk, q⟩ := h
  rw [Vals.ref1 r]
  have view : s.heap.IsItemsView p a := (show ObjOk X.prog X.w H s.heap p (DX.itemsO p a) from I.hok p _ hp).1
  obtain ⟨hd, hz, es, ep, hr, hn, hes⟩ := ents_raw I ha
  rw [List.length_map] at hz hn
  refine DT.sortedI (es := es) (ep := ep) (I.ok.hd hc) view hr (by omega) fun h' tk as hkp hlt hl hG => ?_
  have lak : as.length = bs.length := by omega
  have nd : as.Nodup := List.Pairwise.imp (fun h => Nat.ne_of_lt h) hG.rise
  have abv : ∀ b ∈ as, s.heap.objs.size < b := hG.above
  obtain ⟨ts, tl, ht⟩ := picks (P := fun j (z : (Addr × V) × En) => as[j]? = some z.1.1 ∧ bs[j]? = some z.2 ∧ KkAt H z.2.1.1 z.1.2 ∧ ∃ e : DictEntry, RelV z.1.2 e.key ∧ RelV z.2.1.2 e.val ∧ h'.get? z.1.1 = some { cls := .type "tuple", data := .seq #[e.key, e.val] }) bs.length fun j hj => by
    have hj' : j < as.length := by omega
    obtain ⟨e, he, hg⟩ := hG.pairs j as[j] (List.getElem?_eq_getElem hj')
    obtain ⟨e', kv, he', g1, g2, g3⟩ := hes j bs[j].1 (by rw [List.getElem?_map, List.getElem?_eq_getElem hj]; rfl)
    rw [he] at he'
    cases he'
    exact ⟨((as[j], kv), bs[j]), List.getElem?_eq_getElem hj', List.getElem?_eq_getElem hj, g1, e, g2, g3, hg⟩
  have eas : as = ts.map (·.1.1) := by
    refine List.ext_getElem? fun j => ?_
    rw [List.getElem?_map]
    cases q : ts[j]? with
    | none =>
      have := List.getElem?_eq_none_iff.mp q
      rw [List.getElem?_eq_none (by omega)]
      rfl
    | some z => exact (ht j z q).1
  have ebs : bs = ts.map (·.2) := by
    refine List.ext_getElem? fun j => ?_
    rw [List.getElem?_map]
    cases q : ts[j]? with
    | none =>
      have := List.getElem?_eq_none_iff.mp q
      rw [List.getElem?_eq_none (by omega)]
      rfl
    | some z => exact (ht j z q).2.1
  have hts : ∀ z ∈ ts, KkAt H z.2.1.1 z.1.2 ∧ ∃ e : DictEntry, RelV z.1.2 e.key ∧ RelV z.2.1.2 e.val ∧ h'.get? z.1.1 = some { cls := .type "tuple", data := .seq #[e.key, e.val] } := fun z hz => by
    obtain ⟨j, hj⟩ := List.mem_iff_getElem?.mp hz
    exact (ht j z hj).2.2
  have hbt : ∀ z ∈ ts, z.2 ∈ bs := fun z hz => by rw [ebs]; exact List.mem_map_of_mem hz
  have eref : as.map Value.ref = ts.map fun z => Value.ref z.1.1 := by rw [eas, List.map_map]; rfl
  have hob : (h'.push { cls := .type "list", data := .seq (as.map Value.ref).toArray }).get? h'.objs.size = some (seqObj "list" (as.map Value.ref).toArray 0) := Heap.get?_push_size _ rfl
  have ka : ∀ b o, h'.get? b = some o → (h'.push { cls := .type "list", data := .seq (as.map Value.ref).toArray }).get? b = some o := fun b o e => Heap.get?_push_of_some _ e
  have ne0 : ∀ b o, h'.get? b = some o → b ≠ h'.objs.size := fun b o e => Nat.ne_of_lt (Heap.lt_size e)
  have I0 : Inv X pins σ H { s with heap := h', toks := tk } := I.kept (t' := tk) hkp
  generalize hh2 : h'.push { cls := .type "list", data := .seq (as.map Value.ref).toArray } = h2 at hob ka ⊢
  have rd : ∀ z ∈ ts, ∃ cs, Reads h2 (.ref z.1.1) (pairD z.2) cs ∧ h'.objs.size ∉ cs := fun z hz => by
    obtain ⟨g1, e, g2, g3, hg⟩ := hts z hz
    obtain ⟨c1, r1⟩ := Dp.reads I0 _ _ _ (kk_dp (K := X.K) g1) g2
    obtain ⟨c2, r2⟩ := Dp.reads I0 _ _ _ (hb _ (hbt z hz)).1 g3
    refine ⟨c1 ++ (c2 ++ []), .tuple (ka _ _ hg) rfl rfl (.cons (PyProof.Rows.Reads.keeps ka r1) (.cons (PyProof.Rows.Reads.keeps ka r2) .nil)), fun hm => ?_⟩
    rcases List.mem_append.mp hm with hm | hm
    · exact reads_there r1 _ hm (by
        cases q : h'.get? h'.objs.size with
        | none => rfl
        | some o => exact absurd rfl (ne0 _ _ q))
    · rw [List.append_nil] at hm
      exact reads_there r2 _ hm (by
        cases q : h'.get? h'.objs.size with
        | none => rfl
        | some o => exact absurd rfl (ne0 _ _ q))
  rw [eref] at hob
  have kb : bs.map pairD = ts.map fun z => pairD z.2 := by rw [ebs, List.map_map]; rfl
  refine list_sort_data (s := { s with heap := h2, toks := tk }) (bs := ts) (enc := fun z => pairD z.2) (R := fun v z => v = Value.ref z.1.1) hob (each_all fun _ _ => rfl) (each_all rd) (by rw [← kb]; exact hal) (by rw [← kb]; exact hk) (by omega) (fun z hz => by have := (hb _ (hbt z hz)).2; show X.A.units + 1 + 1 + (pairD z.2).depth < cLine; omega) fun out ho he => ?_
  have eo := each_is (fun z : (Addr × V) × En => Value.ref z.1.1) he
  subst eo
  obtain ⟨zs, ezs⟩ : ∃ zs, zs = ts.mergeSort (dataLe false fun z => pairD z.2) := ⟨_, rfl⟩
  rw [← ezs]
  have mem : ∀ z ∈ zs, z ∈ ts := fun z hz => by rw [ezs] at hz; exact List.mem_mergeSort.mp hz
  have kF : ∀ b o, b ≠ h'.objs.size → h2.get? b = some o → (sortedHeap h2 h'.objs.size (ts.map fun z => Value.ref z.1.1) (zs.map fun z => Value.ref z.1.1).toArray).get? b = some o := fun b o hb e => (PyProof.Rows.sortedHeap_old hb (Heap.lt_size e)).trans e
  have kS : ∀ b o, s.heap.get? b = some o → (sortedHeap h2 h'.objs.size (ts.map fun z => Value.ref z.1.1) (zs.map fun z => Value.ref z.1.1).toArray).get? b = some o := fun b o e => kF b o (ne0 _ _ (hkp b o e)) (ka _ _ (hkp b o e))
  obtain ⟨eF, heF⟩ := PyProof.Rows.sortedHeap_at (vs := ts.map fun z => Value.ref z.1.1) (out := (zs.map fun z => Value.ref z.1.1).toArray) hob
  have I1 : Inv X pins σ H { s with heap := sortedHeap h2 h'.objs.size (ts.map fun z => Value.ref z.1.1) (zs.map fun z => Value.ref z.1.1).toArray, toks := tk } := I.kept (t' := tk) kS
  have hn0 : H h'.objs.size = none := I.hok.fresh (Nat.le_of_lt hlt)
  have zl : zs.length = bs.length := by rw [ezs, List.length_mergeSort, tl]
  obtain ⟨out, eout⟩ : ∃ out, out = (zs.map fun z => Value.ref z.1.1).toArray := ⟨_, rfl⟩
  have rv : Vals (zs.map fun z => V.ref z.1.1) out.toList := by
    rw [eout]
    exact vals_maps (fun z : (Addr × V) × En => V.ref z.1.1) (fun z => Value.ref z.1.1) zs fun _ _ => rfl
  have hlen : (zs.map fun z => V.ref z.1.1).length ≤ sizeLine := by rw [List.length_map, zl]; exact hz
  rw [← eout] at kF kS heF I1
  show EP X pins σ Q (.ref h'.objs.size) { s with heap := sortedHeap h2 h'.objs.size (ts.map fun z => Value.ref z.1.1) (zs.map fun z => Value.ref z.1.1).toArray, toks := tk }
  rw [← eout]
  have ok : ∀ H2, ObjOk X.prog X.w H2 (sortedHeap h2 h'.objs.size (ts.map fun z => Value.ref z.1.1) out) h'.objs.size (.lst (zs.map fun z => V.ref z.1.1)) := fun H2 => ⟨hlen, out.toList, eF, rv, heF⟩
  generalize sortedHeap h2 h'.objs.size (ts.map fun z => Value.ref z.1.1) out = hF at kF kS heF I1 ok ⊢
  have fo := I.fpOk (Nat.le_of_lt hlt) hn0
  have I2 : Inv X pins σ (upd H h'.objs.size (.lst (zs.map fun z => V.ref z.1.1))) { s with heap := hF, toks := tk } :=
    I1.take (h' := hF) (t' := tk) (fun b ob _ e => e) fo (ok _)
  obtain ⟨H2, I3, g, qt⟩ := DX.takeT (P := fun b vs => ∃ z ∈ ts, z.1.1 = b ∧ vs = [z.1.2, z.2.1.2]) I as _ I2 nd fun b hb => by
    rw [eas] at hb
    obtain ⟨z, hz, rfl⟩ := List.mem_map.mp hb
    obtain ⟨g1, e, g2, g3, hg⟩ := hts z hz
    have hbl : s.heap.objs.size ≤ z.1.1 := Nat.le_of_lt (abv _ (by rw [eas]; exact List.mem_map_of_mem hz))
    refine ⟨hbl, ?_, [z.1.2, z.2.1.2], ⟨z, hz, rfl, rfl⟩, fun H3 => ⟨(by rw [sizeLine_eq]; show 2 ≤ 16777216; omega), [e.key, e.val], .cons g2 (.cons g3 .nil), ⟨_, kF _ _ (ne0 _ _ hg) (ka _ _ hg), rfl, 0, rfl⟩⟩⟩
    rw [upd_ne (ne0 _ _ hg)]
    exact I.hok.fresh hbl
  have gr : ∀ b o, H b = some o → H2 b = some o := fun b o e => g b o (by rw [upd_ne (ne_of_none e hn0)]; exact e)
  refine ⟨.ref h'.objs.size, H2, I3, rfl, q H2 h'.objs.size zs gr hn0 (g _ _ upd_same) ?_ fun z hz => ?_⟩
  · have m := List.map_mergeSort (r := dataLe false fun z : (Addr × V) × En => pairD z.2) (s := dataLe false pairD) (f := fun z : (Addr × V) × En => z.2) (l := ts) (fun a _ b _ => rfl)
    rw [ezs, ebs]
    exact m
  · have hz' := mem z hz
    obtain ⟨g1, e, g2, g3, hg⟩ := hts z hz'
    have hbl : s.heap.objs.size ≤ z.1.1 := Nat.le_of_lt (abv _ (by rw [eas]; exact List.mem_map_of_mem hz'))
    refine ⟨I.hok.fresh hbl, g1, ?_⟩
    obtain ⟨vs, ⟨z2, hz2, e1, e2⟩, hH⟩ := qt z.1.1 (by rw [eas]; exact List.mem_map_of_mem hz')
    have ez : z2 = z := by
      obtain ⟨i, hi⟩ := List.mem_iff_getElem?.mp hz2
      obtain ⟨j, hj⟩ := List.mem_iff_getElem?.mp hz'
      have a1 : as[i]? = some z2.1.1 := (ht i z2 hi).1
      have a2 : as[j]? = some z.1.1 := (ht j z hj).1
      rw [e1, ← a2] at a1
      have il : i < as.length := by have := (List.getElem?_eq_some_iff.mp hi).1; omega
      have eij : i = j := (List.getElem?_inj il nd).mp a1
      subst eij
      rw [hi] at hj
      exact Option.some.inj hj
    subst ez
    rw [e2] at hH
    exact hH
noncomputable def entsD : Option Tr → Option (List (KK × PyData))
  | some (.dk kvs) => (dats kvs).map fun ds => ds.map fun p => (.inl p.1, p.2)
  | some (.dt kvs) => (dats kvs).map fun ds => ds.map fun p => (.inr p.1, p.2)
  | _ => none
noncomputable def itD (b : KK × PyData) : PyData := .tuple [kkD b.1, b.2]
noncomputable def cSortIt (f : M (Nat × List Nat)) : M Rv := bnd f fun r => fun ρ => match entsD (treeAt ρ r) with
  | some es => if sortOk (es.map itD) then some (.ok (.d (.list (sortL (es.map itD)))) ρ) else none
  | none => none
theorem ents_of {F H : Hp} {v : V} {t : Tr} {B : List Addr} {es : List (KK × PyData)} (q : TrOk K F H v t B) (h : entsD (some t) = some es) :
    ∃ a, ∃ bs : List (KK × V), v = .ref a ∧ EntsAt H a bs ∧ bs.map (·.1) = es.map (·.1) ∧ DqAll K F (bs.map (·.2)) (es.map (·.2)) ∧ tyV K "dict" v H := by
  cases q with
  | @dk a vs ts A h1 h2 h3 h4 =>
    simp only [entsD] at h
    obtain ⟨ds, e1, rfl⟩ := map_some h
    obtain ⟨_, p1, p2⟩ := dats_ok h3 h4 e1
    refine ⟨a, _, rfl, .inl ⟨vs, h1, rfl⟩, ?_, ?_, .inr (.inr (.inl ⟨rfl, .inl ⟨_, h1⟩⟩))⟩
    · rw [List.map_map, List.map_map]
      have : (vs.map (·.1)).map (Sum.inl : Key → KK) = (ds.map (·.1)).map Sum.inl := by rw [p1]
      rw [List.map_map, List.map_map] at this
      exact this
    · rw [List.map_map, List.map_map]
      exact p2
  | @dt a vs ts A h1 h2 h3 h4 =>
    simp only [entsD] at h
    obtain ⟨ds, e1, rfl⟩ := map_some h
    obtain ⟨_, p1, p2⟩ := dats_ok h3 h4 e1
    refine ⟨a, _, rfl, .inr ⟨vs, h1, rfl⟩, ?_, ?_, .inr (.inr (.inl ⟨rfl, .inr ⟨_, h1⟩⟩))⟩
    · rw [List.map_map, List.map_map]
      have : (vs.map (·.1)).map (Sum.inr : List Key → KK) = (ds.map (·.1)).map Sum.inr := by rw [p1]
      rw [List.map_map, List.map_map] at this
      exact this
    · rw [List.map_map, List.map_map]
      exact p2
  | _ => cases h
theorem dqAll_in {F : Hp} : ∀ {vs : List V} {ds : List PyData}, DqAll K F vs ds → ∀ b ∈ vs.zip ds, Dq K F b.1 b.2
  | _, _, .nil, b, h => by simp at h
  | _, _, .cons h t, b, hb => by
    rcases List.mem_cons.mp (show b ∈ (_, _) :: _ from hb) with e | hb
    · subst e; exact h
    · exact dqAll_in t b hb
theorem canAll_of : ∀ {ds : List PyData} {d : PyData}, PyData.canLayAll0 ds = true → d ∈ ds → d.canLay0 = true
  | e :: ds, d, h, hd => by
    simp only [PyData.canLayAll0, Bool.and_eq_true] at h
    rcases List.mem_cons.mp hd with z | z
    · rw [z]; exact h.1
    · exact canAll_of h.2 z
theorem dqAll_maps {α : Type} {F : Hp} {f : α → V} {g : α → PyData} : ∀ {zs : List α}, (∀ z ∈ zs, Dq K F (f z) (g z)) → DqAll K F (zs.map f) (zs.map g)
  | [], _ => .nil
  | z :: zs, h => .cons (h z List.mem_cons_self) (dqAll_maps fun y hy => h y (List.mem_cons_of_mem _ hy))
theorem frz_grow {F H H' : Hp} {A : List Addr} (s : Same F H) (t : TbOk K F H) (sh : Same H H') (hA : ∀ b ∈ A, H b = none ∨ ∃ k : List Key, H b = some (.tup (k.map kV))) : Grow2 K F H (VL.frz F H' A) H' := by
  have sF : Same F (VL.frz F H' A) := fun b o e => by
    unfold VL.frz
    split
    · exact sh _ _ (s _ _ e)
    · exact e
  refine ⟨fun b o h _ => sh b o h, fun b h => sh.free h, sF, frz_sub (s.trans sh), fun b h h' => ?_, t.mono sF fun P ps h1 h2 => ⟨?_, (sh _ _ h1).trans h1.symm⟩⟩
  · unfold VL.frz at h'
    split at h'
    · rename_i hm
      rcases hA b hm with z | ⟨k, z⟩
      · exact .inl z
      · exact .inr (.inl ⟨k, z⟩)
    · exact absurd h h'
  · unfold VL.frz
    rw [if_neg fun z => by
      rcases hA P z with y | ⟨k, y⟩ <;> rw [h1] at y <;> cases y]
    exact h2
variable {T : List Nat} {W : WV} {e : Expr} {p : Pos} {fp1 : M (Nat × List Nat)} {apos cpos pos : Pos}
theorem ve_sortIt (hc : X.calm = true) (hu : X.A.units + 65 < cLine) (hg : Gl X "sorted") (hm : X.mg "sorted" = none) (ha : VP X T W e fp1) (hbase : attributeBase e "items" X.env (eval e X.env) = eval e X.env := by rfl) (hline : (apos.endLine == cpos.line) = true := by rfl)
    (hs : starEach [Expr.Call (.Attribute e "items" apos) [] [] cpos] X.env = (false, eval (Expr.Call (.Attribute e "items" apos) [] [] cpos) X.env) :: starEach [] X.env := by rfl) (hpl : (backTo pos (starEach [] X.env)).any (·.1) = false := by rfl) :
    VE X T W (.Call (.Name "sorted" p) [.Call (.Attribute e "items" apos) [] [] cpos] [] pos) (cSortIt fp1) :=
  pe_imp (pe_callB (cr_sortIt hc hu) hg hm (by decide +kernel) (pa_cons (pe_bm0 PySem.F.plainAttrs_dict PySem.F.slot_dict_items PySem.F.type_dict_items mt_itemsD ha hbase hline) pa_nil hs) (by decide) (by decide) hs hpl) fun σ H Q ⟨F, ρ, fp, o, E, q, P⟩ => by
    refine tv_bnd E q P (fun i hi => hi) fun r ρ1 v H1 F1 fp1 s1 r1 e1 P1 => ?_
    split at e1
    · rename_i es hes
      split at e1
      · rename_i hz
        cases ok_inj e1
        cases ht : treeAt ρ1 r with
        | none => rw [ht] at hes; cases hes
        | some t0 =>
          rw [ht] at hes
          obtain ⟨B, qB, _⟩ := place_get s1.env r1 ht
          obtain ⟨a, bs, rfl, hE, k1, k2, ty⟩ := ents_of qB hes
          refine ⟨ty, a, bs, rfl, rfl, hE, fun pv npv => ?_⟩
          unfold sortOk at hz
          simp only [Bool.and_eq_true] at hz
          obtain ⟨⟨⟨z1, z2⟩, z3⟩, z4⟩ := hz
          have l1 : bs.length = es.length := by simpa using congrArg List.length k1
          have m1 : (bs.zip (es.map (·.2))).map (·.1) = bs := List.map_fst_zip (by rw [List.length_map]; omega)
          have m3 : (bs.zip (es.map (·.2))).map pairD = es.map itD := by
            refine List.ext_getElem? fun j => ?_
            rw [List.getElem?_map, List.getElem?_map]
            by_cases hj : j < bs.length
            · have hj2 : j < es.length := by omega
              have a1 : (bs.zip (es.map (·.2)))[j]? = some (bs[j], es[j].2) := by
                rw [List.getElem?_zip_eq_some]
                exact ⟨List.getElem?_eq_getElem hj, by rw [List.getElem?_map, List.getElem?_eq_getElem hj2]; rfl⟩
              rw [a1, List.getElem?_eq_getElem hj2]
              have k3 : (bs.map (·.1))[j]? = (es.map (·.1))[j]? := by rw [k1]
              rw [List.getElem?_map, List.getElem?_map, List.getElem?_eq_getElem hj, List.getElem?_eq_getElem hj2] at k3
              have k4 : bs[j].1 = es[j].1 := Option.some.inj k3
              show some (PyData.tuple [kkD bs[j].1, es[j].2]) = some (PyData.tuple [kkD es[j].1, es[j].2])
              rw [k4]
            · rw [List.getElem?_eq_none (by rw [List.length_zip, List.length_map]; omega), List.getElem?_eq_none (by omega)]
              rfl
          have vz : ∀ b ∈ bs.zip (es.map (·.2)), Dq X.K F1 b.1.2 b.2 := fun b hb => by
            refine dqAll_in k2 (b.1.2, b.2) ?_
            rw [List.zip_map_left]
            exact List.mem_map.mpr ⟨b, hb, rfl⟩
          have inn : ∀ b ∈ bs.zip (es.map (·.2)), pairD b ∈ es.map itD := fun b hb => by rw [← m3]; exact List.mem_map_of_mem hb
          have sv : Same H1 (upd H1 pv (DX.itemsO pv a)) := same_upd npv
          have hE2 : EntsAt (upd H1 pv (DX.itemsO pv a)) a bs := by
            rcases hE with ⟨kvs, h1, h2⟩ | ⟨kvs, h1, h2⟩
            · exact .inl ⟨kvs, sv _ _ h1, h2⟩
            · exact .inr ⟨kvs, sv _ _ h1, h2⟩
          refine ⟨pv, a, bs.zip (es.map (·.2)), rfl, upd_same, by rw [m1]; exact hE2, fun b hb => ⟨?_, of_decide_eq_true (List.all_eq_true.mp z3 _ (inn b hb))⟩, ?_, ?_, fun H' l zs sh nl hl ezs hzs => ?_⟩
          · have c1 : (pairD b).canLay0 = true := List.all_eq_true.mp z4 _ (inn b hb)
            have c2 : b.2.canLay0 = true := canAll_of (ds := [kkD b.1.1, b.2]) (by simpa [pairD, PyData.canLay0] using c1) (by simp)
            exact dq_dp _ _ c2 (dq_mono (s1.env.sub.trans sv) _ _ (vz b hb))
          · rw [m3]
            exact fun d hd d' hd' => List.all_eq_true.mp (List.all_eq_true.mp z1 d hd) d' hd'
          · rw [m3]
            rcases Bool.or_eq_true _ _ ▸ z2 with z | z
            · refine .inl fun d hd => ?_
              have := List.all_eq_true.mp z d hd
              unfold tupled at this
              split at this
              · exact ⟨_, _, rfl⟩
              · cases this
            · refine .inr fun d hd => ?_
              have := List.all_eq_true.mp z d hd
              unfold untupled at this
              split at this
              · cases this
              · cases this
              · rename_i n1 n2
                exact ⟨fun e => n2 e, fun xs e => n1 xs e⟩
          · have mm : zs.map (fun z => pairD z.2) = sortL (es.map itD) := by
              unfold sortL
              have z := List.map_mergeSort (r := PySem.W.dataLe false pairD) (s := PySem.W.dataLe false id) (f := pairD) (l := bs.zip (es.map (·.2))) (fun a _ b _ => rfl)
              rw [m3, ← ezs, List.map_map] at z
              exact z
            have memz : ∀ z ∈ zs, z.2 ∈ bs.zip (es.map (·.2)) := fun z hz => by
              have : z.2 ∈ zs.map (·.2) := List.mem_map_of_mem hz
              rw [ezs] at this
              exact List.mem_mergeSort.mp this
            have sH : Same H1 H' := sv.trans sh
            have npH : ∀ b, H' b = none → H1 b = none := fun b h => sH.free h
            -- all that is frozen: the list, the pairs, the keys
            obtain ⟨A, hA⟩ : ∃ A : List Addr, A = l :: (zs.map (·.1.1) ++ zs.filterMap fun z => match z.2.1.1, z.1.2 with
              | .inr _, .ref q => some q
              | _, _ => none) := ⟨_, rfl⟩
            have g := frz_grow (K := X.K) (A := A) s1.env.sub s1.env.tb sH fun b hb => by
              rw [hA] at hb
              rcases List.mem_cons.mp hb with e | hb
              · rw [e]; exact .inl (sv.free nl)
              · rcases List.mem_append.mp hb with hb | hb
                · obtain ⟨z, hz, rfl⟩ := List.mem_map.mp hb
                  exact .inl (sv.free (hzs z hz).1)
                · obtain ⟨z, hz, e⟩ := List.mem_filterMap.mp hb
                  obtain ⟨_, g1, _⟩ := hzs z hz
                  cases hk : z.2.1.1 with
                  | inl k => rw [hk] at e; cases e
                  | inr k =>
                    rw [hk] at e g1
                    obtain ⟨q', e2, e3⟩ := g1
                    rw [e2] at e
                    cases e
                    refine .inr ⟨k, ?_⟩
                    cases z5 : H1 b with
                    | some o => rw [sv _ _ z5] at e3; exact e3
                    | none =>
                      exfalso
                      by_cases y : b = pv
                      · rw [y, upd_same] at e3; cases e3
                      · rw [upd_ne y, z5] at e3; cases e3
            have inA : ∀ b ∈ A, VL.frz F1 H' A b = H' b := fun b hb => by unfold VL.frz; rw [if_pos hb]
            have sF : Same F1 (VL.frz F1 H' A) := g.f
            have hq : DqAll X.K (VL.frz F1 H' A) (zs.map fun z => .ref z.1.1) (zs.map fun z => pairD z.2) := by
              refine dqAll_maps (f := fun z : (Addr × V) × En => V.ref z.1.1) (g := fun z => pairD z.2) fun z hz => ?_
              · obtain ⟨_, g1, g2⟩ := hzs z hz
                refine .tup ((inA _ ?_).trans g2) (.cons ?_ (.cons (dq_mono sF _ _ (vz _ (memz z hz))) .nil))
                · rw [hA]; exact List.mem_cons_of_mem _ (List.mem_append_left _ (List.mem_map_of_mem hz))
                · cases hk : z.2.1.1 with
                  | inl k =>
                    rw [hk] at g1
                    rw [show z.1.2 = kV k from g1]
                    exact keyPD_ok
                  | inr k =>
                    rw [hk] at g1
                    obtain ⟨q', e2, e3⟩ := g1
                    rw [e2]
                    refine .tup ((inA _ ?_).trans (sh _ _ e3)) dqAll_keys
                    rw [hA]
                    refine List.mem_cons_of_mem _ (List.mem_append_right _ (List.mem_filterMap.mpr ⟨z, hz, ?_⟩))
                    rw [hk, e2]
            rw [mm] at hq
            exact P1 _ H' _ fp1 (g.step s1.env) (.lst (.inl ((inA _ (by rw [hA]; exact List.mem_cons_self)).trans hl)) hq)
      · cases e1
    · cases e1
end
end VL

end

section
set_option Elab.async false
set_option linter.all false
set_option maxRecDepth 100000
namespace K37
open PySem PySem.Spec PyProof.Rows L2 VL SM SN
noncomputable def b__law_sums_0 : MS := (sDPut [] (cBin addD (cDGet2 [] (pVar 8) (cVar 9) (cD (.int 0))) (cVar 6)) (pVar 8) (cVar 9))
noncomputable def b__law_sums_1 : MS := (sDPut [] (cBin addD (cDGet2 [] (pVar 3) (cTup (aCons (cVar 4) (aCons (cVar 5) (aCons (cVar 7) aNil)))) (cD (.int 0))) (cVar 6)) (pVar 3) (cTup (aCons (cVar 4) (aCons (cVar 5) (aCons (cVar 7) aNil)))))
noncomputable def g__law_sums : MS := (sSeq (sAsg (gT 2 (gsC (gN 1) (gsC (gN 2) gsN))) (cVar 0))
  (sSeq (sSetN 3 (nNew (.dt [])))
  (sSeq (sFor (iSeq (cVar 1)) (gT 4 (gsC (gN 4) (gsC (gN 5) (gsC (gN 6) (gsC (gN 7) gsN))))) b__law_sums_1)
  (sSeq (sSetN 8 (nNew (.dk [])))
  (sSeq (sFor (iSeq (cBin subD (cVar 2) (cD (.int 1)))) (gT 2 (gsC (gN 9) (gsC (gN 6) gsN))) b__law_sums_0)
  (sRet (nLst (aCons (cSortIt (pVar 3)) (aCons (cBin subD (cVar 2) (cD (.int 0))) (aCons (cSortIt (pVar 8)) aNil))))))))))
noncomputable def F__law_sums : Fn := runF 10 g__law_sums
noncomputable def g__law_turned : MS := (sSeq (sSetN 1 (nDisp (dtCons (.inr s_had) (nDat (cD (.str s_owed))) (dtCons (.inr s_owed) (nDat (cD (.str s_had))) (dtCons (.inr s_has) (nDat (cD (.str s_owes))) (dtCons (.inr s_owes) (nDat (cD (.str s_has))) (dtCons (.inr s_nothing) (nDat (cD (.str s_nothing))) dtNil)))))))
  (sSeq (sAsg (gT 2 (gsC (gN 2) (gsC (gN 3) gsN))) (cVar 0))
  (sRet (nTupT (tConsM (nComp (iSeq (cVar 2)) [4] (gN 4) tYesM (cBin addD (cCut (cVar 4) oNone (oSome (cD (.int 3)))) (cTup (aCons (cDGet [] (pVar 1) (cBin subD (cVar 4) (cD (.int 3)))) aNil)))) (tConsM (nDat (cTup (aCons (cDGet [] (pVar 1) (cBin subD (cVar 3) (cD (.int 0)))) (aCons (cBin subD (cVar 3) (cD (.int 1))) aNil)))) tNilM))))))
noncomputable def F__law_turned : Fn := runF 5 g__law_turned
noncomputable def g__law_unlike : MS := (sSeq (sSet 2 (cFrz (nComp (iSeq (cVar 0)) [3] (gN 3) (cCmp inD (cVar 1) (cCut (cVar 3) oNone (oSome (cD (.int 2))))) (cTup (aCons (cBin subD (cVar 3) (cD (.int 4))) (aCons (cBin subD (cVar 3) (cD (.int 2))) (aCons (cBin addD (cBin subD (cVar 3) (cD (.int 0))) (cBin subD (cVar 3) (cD (.int 1)))) (aCons (cBin subD (cVar 3) (cD (.int 3))) aNil))))))))
  (sRet (nDat (cOf (cCmp eqD (cLenSetI (cVar 2)) (cCall lenD (aCons (cVar 2) aNil)))))))
noncomputable def F__law_unlike : Fn := runF 4 g__law_unlike
noncomputable def b_law_0 : MS := (sSeq (sSet 22 (cFrz (nCall [21] 2 SM.F_pieces (aCons (cCall listD (aCons (cVar 4) aNil)) (aCons (cVar 21) aNil)))))
  (sSeq (sSet 23 (cFrz (nCall [21] 3 SM.F_gain (aCons (cCall listD (aCons (cVar 4) aNil)) (aCons (cVar 21) (aCons (cD (.int 100)) aNil))))))
  (sSeq (sIf (cOr (cCmp neD (cFrz (nCall [14, 21] 3 SM.F_gain (aCons (cVar 14) (aCons (cVar 21) (aCons (cD (.int 100)) aNil))))) (cVar 23)) (cCmp neD (cBin addD (cFrz (nCall [15, 21] 3 SM.F_gain (aCons (cVar 15) (aCons (cVar 21) (aCons (cD (.int 100)) aNil))))) (cVar 23)) (cD (.int 0)))) (sRet (nDat (cD (.bool false)))) sNil)
  (sSeq (sIf (cCmp neD (cFrz (nCall [17, 21] 3 SM.F_gain (aCons (cVar 17) (aCons (cVar 21) (aCons (cD (.int 109)) aNil))))) (cVar 23)) (sRet (nDat (cD (.bool false)))) sNil)
  (sSeq (sIf (cCmp neD (cCut (cFrz (nCall [] 1 F__law_sums (aCons (cFrz (nCall [14, 21] 2 SM.F_pieces (aCons (cVar 14) (aCons (cVar 21) aNil)))) aNil))) (oSome (cD (.int 1))) oNone) (cCut (cFrz (nCall [22] 1 F__law_sums (aCons (cVar 22) aNil))) (oSome (cD (.int 1))) oNone)) (sRet (nDat (cD (.bool false)))) sNil)
  (sIf (cAnd (cTest (cFrz (nCall [4, 21] 2 F__law_unlike (aCons (cVar 4) (aCons (cVar 21) aNil))))) (cCmp neD (cFrz (nCall [15, 21] 2 SM.F_pieces (aCons (cVar 15) (aCons (cVar 21) aNil)))) (cFrz (nCall [22] 1 F__law_turned (aCons (cVar 22) aNil))))) (sRet (nDat (cD (.bool false)))) sNil))))))
noncomputable def b_law_1 : MS := (sSeq (sSetN 2 (nCall [0, 1] 2 fBag (aCons (cVar 0) (aCons (cVar 1) aNil))))
  (sSeq (sSet 3 (cBin addD (cD (.int 2)) (cFrz (nCall [2] 2 fTake (aCons (cVar 2) (aCons (cD (.int 5)) aNil))))))
  (sSeq (sSet 4 (cBin addD (cFrz (nCall [2, 3] 3 SM.F__law_small_deals (aCons (cVar 2) (aCons (cVar 3) (aCons (cD (.int 23)) aNil))))) (cFrz (nLst (aCons (cTup (aCons (cD (.int 0)) (aCons (cD (.int 1)) (aCons (cD (.int 101)) (aCons (cD (.int 6)) (aCons (cD (.int 2)) aNil)))))) aNil)))))
  (sSeq (sSet 5 (cFrz (nCall [2] 2 fTake (aCons (cVar 2) (aCons (cCall lenD (aCons (cVar 4) aNil)) aNil)))))
  (sSeq (sAsg (gT 5 (gsC (gN 6) (gsC (gN 7) (gsC (gN 8) (gsC (gN 9) (gsC (gN 10) gsN)))))) (cBin subD (cVar 4) (cVar 5)))
  (sSeq (sSet 11 (cFrz (nCall [2, 9] 2 fTake (aCons (cVar 2) (aCons (cVar 9) aNil)))))
  (sSeq (sSet 12 (cFrz (nComp (iSeq (cTup (aCons (cVar 11) (aCons (cBin subtD (cVar 9) (cVar 11)) aNil)))) [13] (gN 13) (cCmp gtD (cVar 13) (cD (.int 0))) (cTup (aCons (cVar 6) (aCons (cVar 7) (aCons (cVar 8) (aCons (cVar 13) (aCons (cVar 10) aNil)))))))))
  (sSeq (sSet 14 (cBin addD (cBin addD (cCut (cVar 4) oNone (oSome (cVar 5))) (cVar 12)) (cCut (cVar 4) (oSome (cBin addD (cVar 5) (cD (.int 1)))) oNone)))
  (sSeq (sSet 15 (cFrz (nComp (iSeq (cVar 4)) [16] (gN 16) tYesM (cBin addD (cTup (aCons (cBin subD (cVar 16) (cD (.int 1))) (aCons (cBin subD (cVar 16) (cD (.int 0))) aNil))) (cCut (cVar 16) (oSome (cD (.int 2))) oNone)))))
  (sSeq (sSet 17 (cFrz (nComp (iSeq (cVar 4)) [16] (gN 16) tYesM (cBin addD (cBin addD (cCut (cVar 16) oNone (oSome (cD (.int 2)))) (cTup (aCons (cBin addD (cBin subD (cVar 16) (cD (.int 2))) (cD (.int 9))) aNil))) (cCut (cVar 16) (oSome (cD (.int 3))) oNone)))))
  (sSeq (sSet 18 (cFrz (nCall [3] 2 SM.F_stands (aCons (cVar 3) (aCons (cCall listD (aCons (cVar 4) aNil)) aNil)))))
  (sSeq (sIf (cCmp neD (cFrz (nCall [3, 14] 2 SM.F_stands (aCons (cVar 3) (aCons (cVar 14) aNil)))) (cVar 18)) (sRet (nDat (cD (.bool false)))) sNil)
  (sSeq (sIf (cCmp neD (cFrz (nCall [3, 15] 2 SM.F_stands (aCons (cVar 3) (aCons (cVar 15) aNil)))) (cFrz (nComp (iSeq (cVar 18)) [19, 20] (gT 2 (gsC (gN 19) (gsC (gN 20) gsN))) tYesM (cTup (aCons (cBin subtD (cD (.int 0)) (cVar 19)) (aCons (cBin subtD (cD (.int 0)) (cVar 20)) aNil)))))) (sRet (nDat (cD (.bool false)))) sNil)
  (sFor (iRange1 (aCons (cVar 3) aNil)) (gN 21) b_law_0))))))))))))))
noncomputable def g_law : MS := (sSeq (sFor (iRange1 (aCons (cBin addD (cD (.int 1)) (cCall min2D (aCons (cCall lenD (aCons (cVar 0) aNil)) (aCons (cD (.int 10)) aNil)))) aNil)) (gN 1) b_law_1)
  (sRet (nDat (cD (.bool true)))))
noncomputable def F_law : Fn := runF 24 g_law
end K37

end

section
set_option Elab.async false
set_option linter.all false
set_option maxRecDepth 100000
set_option maxHeartbeats 0
namespace K37
open PySem PySem.Spec PyProof.Rows L2 VL SM SN
noncomputable def topS (i : Nat) : Stmt := PySem.Challenge.pw_palmhall_k37_whole_deals_parted.main.body.getD i (.Pass ⟨0, 0, 0, 0⟩)
noncomputable abbrev st_stands : Stmt := topS 3
noncomputable abbrev st_deals_of : Stmt := topS 4
noncomputable abbrev st__law_bag : Stmt := topS 8
noncomputable abbrev st__law_take : Stmt := topS 9
noncomputable abbrev st__law_sums : Stmt := topS 11
noncomputable abbrev st__law_turned : Stmt := topS 12
noncomputable abbrev st__law_unlike : Stmt := topS 13
noncomputable abbrev st_pieces : Stmt := topS 5
noncomputable abbrev st__law_small_deals : Stmt := topS 10
noncomputable abbrev st_gain : Stmt := topS 6
noncomputable abbrev st_law : Stmt := topS 14
set_option genInjectivity false in
set_option genSizeOf false in
structure Ad where
  f_stands : Addr
  d_stands : FuncData
  f_deals_of : Addr
  d_deals_of : FuncData
  f__law_bag : Addr
  d__law_bag : FuncData
  f__law_take : Addr
  d__law_take : FuncData
  f__law_sums : Addr
  d__law_sums : FuncData
  f__law_turned : Addr
  d__law_turned : FuncData
  f__law_unlike : Addr
  d__law_unlike : FuncData
  f_pieces : Addr
  d_pieces : FuncData
  f__law_small_deals : Addr
  d__law_small_deals : FuncData
  f_gain : Addr
  d_gain : FuncData
  f_law : Addr
  d_law : FuncData
structure All (K : Fg) (w : World) (mg : Str → Option Value) (a : Ad) : Prop where
  F_stands : Fun K "stands" "stands" st_stands a.f_stands a.d_stands
  m_stands : mg "stands" = some (.ref a.f_stands)
  b_stands : Binds K a.d_stands ["many", "deals"] []
  F_deals_of : Fun K "deals_of" "deals_of" st_deals_of a.f_deals_of a.d_deals_of
  m_deals_of : mg "deals_of" = some (.ref a.f_deals_of)
  b_deals_of : Binds K a.d_deals_of ["deals", "member"] []
  F__law_bag : Fun K "_law_bag" "_law_bag" st__law_bag a.f__law_bag a.d__law_bag
  m__law_bag : mg "_law_bag" = some (.ref a.f__law_bag)
  b__law_bag : Binds K a.d__law_bag ["script", "k"] []
  F__law_take : Fun K "_law_take" "_law_take" st__law_take a.f__law_take a.d__law_take
  m__law_take : mg "_law_take" = some (.ref a.f__law_take)
  b__law_take : Binds K a.d__law_take ["bag", "many"] []
  F__law_sums : Fun K "_law_sums" "_law_sums" st__law_sums a.f__law_sums a.d__law_sums
  m__law_sums : mg "_law_sums" = some (.ref a.f__law_sums)
  b__law_sums : Binds K a.d__law_sums ["told"] []
  F__law_turned : Fun K "_law_turned" "_law_turned" st__law_turned a.f__law_turned a.d__law_turned
  m__law_turned : mg "_law_turned" = some (.ref a.f__law_turned)
  b__law_turned : Binds K a.d__law_turned ["told"] []
  F__law_unlike : Fun K "_law_unlike" "_law_unlike" st__law_unlike a.f__law_unlike a.d__law_unlike
  m__law_unlike : mg "_law_unlike" = some (.ref a.f__law_unlike)
  b__law_unlike : Binds K a.d__law_unlike ["deals", "member"] []
  F_pieces : Fun K "pieces" "pieces" st_pieces a.f_pieces a.d_pieces
  m_pieces : mg "pieces" = some (.ref a.f_pieces)
  b_pieces : Binds K a.d_pieces ["deals", "member"] []
  F__law_small_deals : Fun K "_law_small_deals" "_law_small_deals" st__law_small_deals a.f__law_small_deals a.d__law_small_deals
  m__law_small_deals : mg "_law_small_deals" = some (.ref a.f__law_small_deals)
  b__law_small_deals : Binds K a.d__law_small_deals ["bag", "members", "most"] []
  F_gain : Fun K "gain" "gain" st_gain a.f_gain a.d_gain
  m_gain : mg "gain" = some (.ref a.f_gain)
  b_gain : Binds K a.d_gain ["deals", "member", "price"] []
  F_law : Fun K "law" "law" st_law a.f_law a.d_law
  m_law : mg "law" = some (.ref a.f_law)
  b_law : Binds K a.d_law ["script"] []
  n_int : mg "int" = none
  n_len : mg "len" = none
  n_list : mg "list" = none
  n_min : mg "min" = none
  n_range : mg "range" = none
  n_set : mg "set" = none
  n_sorted : mg "sorted" = none
  n_zip : mg "zip" = none
  m_HAD : ∃ t, mg "HAD" = some (.str "had" t)
  m_OWED : ∃ t, mg "OWED" = some (.str "owed" t)
section
variable {P : Program} {w : World} {K : PySem.W.Frag} {mg : Str → Option Value} {base : Heap} {a : Ad}
noncomputable abbrev N_stands : List Str := ["many", "deals", "lots", "coins", "seller", "buyer", "price", "count", "moment"]
theorem sc_stands : FnScope N_stands ["many", "deals"] (defScope st_stands) := ⟨rfl, rfl, rfl, by decide +kernel, rfl, by decide +kernel, by decide +kernel⟩
theorem ok_stands (A : All K w mg a) : FnOk P w K mg base CX0 1 a.f_stands a.d_stands ["many", "deals"] (spV K Wx0 2 SM.F_stands) :=
  fn_ok (k := 0) A.F_stands sc_stands fun cdv Ar outer s H E hr => by
   have A := A
   exact (vss_cons (vs_setN (i := 2) sc_stands.nd (vn_rep (ve_frz (vn_lst (va_cons ve_int va_nil))) (ve_var 0)))
    (vss_cons (vs_setN (i := 3) sc_stands.nd (vn_rep (ve_frz (vn_lst (va_cons ve_int va_nil))) (ve_var 0)))
    (vss_cons (vs_for PassesOwn.never rfl (vi_seq (ve_var 1)) (vg_tup rfl (vgs_cons (vg_name (i := 4) sc_stands.nd) (vgs_cons (vg_name (i := 5) sc_stands.nd) (vgs_cons (vg_name (i := 6) sc_stands.nd) (vgs_cons (vg_name (i := 7) sc_stands.nd) (vgs_cons (vg_name (i := 8) sc_stands.nd) vgs_nil)))))) (vss_cons (vs_augIx (vp_var 2) (ve_var 4) (ve_var 7) ip_sub)
    (vss_cons (vs_augIx (vp_var 3) (ve_var 4) (ve_mul (ve_var 6) (ve_var 7)) ip_add)
    (vss_cons (vs_augIx (vp_var 2) (ve_var 5) (ve_var 7) ip_add)
    (vss_one (vs_augIx (vp_var 3) (ve_var 5) (ve_mul (ve_var 6) (ve_var 7)) ip_sub))))))
    (vss_one (vs_ret (vn_listzip rfl (by rfl) A.n_zip (by rfl) A.n_list (va_cons (ve_var 2) (va_cons (ve_var 3) va_nil))))))))
noncomputable abbrev N_deals_of : List Str := ["deals", "member", "found", "seller", "buyer", "price", "count", "moment"]
theorem sc_deals_of : FnScope N_deals_of ["deals", "member"] (defScope st_deals_of) := ⟨rfl, rfl, rfl, by decide +kernel, rfl, by decide +kernel, by decide +kernel⟩
theorem ok_deals_of (A : All K w mg a) : FnOk P w K mg base CX0 1 a.f_deals_of a.d_deals_of ["deals", "member"] (spV K Wx0 2 SM.F_deals_of) :=
  fn_ok (k := 0) A.F_deals_of sc_deals_of fun cdv Ar outer s H E hr => by
   have A := A
   exact (vss_cons (vs_setN (i := 2) sc_deals_of.nd (vn_lst va_nil))
    (vss_cons (vs_for PassesOwn.never rfl (vi_seq (ve_var 0)) (vg_tup rfl (vgs_cons (vg_name (i := 3) sc_deals_of.nd) (vgs_cons (vg_name (i := 4) sc_deals_of.nd) (vgs_cons (vg_name (i := 5) sc_deals_of.nd) (vgs_cons (vg_name (i := 6) sc_deals_of.nd) (vgs_cons (vg_name (i := 7) sc_deals_of.nd) vgs_nil)))))) (vss_cons (vs_if (vt_cmp (op_eqD hr.units) ok_eqD (ve_var 4) (ve_var 1) (nomark _)) (vss_one (vs_appd (vp_var 2) (vn_dat (ve_tup (va_cons (ve_var 7) (va_cons (ve_var 5) (va_cons (ve_var 3) (va_cons (ve_var 6) (va_cons ve_int va_nil))))))))) vss_nil)
    (vss_one (vs_if (vt_cmp (op_eqD hr.units) ok_eqD (ve_var 3) (ve_var 1) (nomark _)) (vss_one (vs_appd (vp_var 2) (vn_dat (ve_tup (va_cons (ve_var 7) (va_cons (ve_var 5) (va_cons (ve_var 4) (va_cons (ve_var 6) (va_cons ve_int va_nil))))))))) vss_nil))))
    (vss_one (vs_ret (vn_dat (ve_callB (cr_sortD (hu65 hr)) ok_sortedD (by rfl) A.n_sorted (by decide +kernel) (va_cons (ve_var 2) va_nil)))))))
noncomputable abbrev N__law_bag : List Str := ["script", "k", "cell"]
theorem sc__law_bag : FnScope N__law_bag ["script", "k"] (defScope st__law_bag) := ⟨rfl, rfl, rfl, by decide +kernel, rfl, by decide +kernel, by decide +kernel⟩
theorem ok__law_bag (A : All K w mg a) : FnOk P w K mg base CX0 1 a.f__law_bag a.d__law_bag ["script", "k"] (spV K Wx0 2 fBag) :=
  fn_ok (k := 0) A.F__law_bag sc__law_bag fun cdv Ar outer s H E hr => by
   have A := A
   exact (vss_cons (vs_set (i := 2) sc__law_bag.nd ve_int)
    (vss_cons (vs_if (vt_cmp op_lt ok_icmp (ve_var 1) (ve_callB call_len ok_lenD (by rfl) A.n_len (by decide +kernel) (va_cons (ve_var 0) va_nil)) (nomark _)) (vss_one (vs_set (i := 2) sc__law_bag.nd (ve_mod (ve_ix (ve_var 0) (ve_var 1)) (ve_mul (ve_pow ve_int ve_int) (ve_pow ve_int ve_int))))) vss_nil)
    (vss_cons (vs_if (vt_cmp op_lt ok_icmp (ve_var 2) (ve_pow ve_int ve_int) (nomark _)) (vss_one (vs_ret (vn_lst (va_cons ve_int (va_cons (ve_add ve_int (ve_mod (ve_add (ve_mul (ve_var 2) ve_int) (ve_mul ve_int (ve_var 1))) ve_int)) va_nil))))) vss_nil)
    (vss_one (vs_ret (vn_lst (va_cons (ve_var 2) (va_cons (ve_add ve_int (ve_mod (ve_add (ve_var 2) (ve_var 1)) ve_int)) va_nil))))))))
noncomputable abbrev N__law_take : List Str := ["bag", "many", "found"]
theorem sc__law_take : FnScope N__law_take ["bag", "many"] (defScope st__law_take) := ⟨rfl, rfl, rfl, by decide +kernel, rfl, by decide +kernel, by decide +kernel⟩
theorem ok__law_take (A : All K w mg a) : FnOk P w K mg base CX0 1 a.f__law_take a.d__law_take ["bag", "many"] (spV K Wx0 2 fTake) :=
  fn_ok (k := 0) A.F__law_take sc__law_take fun cdv Ar outer s H E hr => by
   have A := A
   exact (vss_cons (vs_if (vt_cmp op_gt ok_icmp (ve_ix (ve_var 0) ve_int) ve_int (nomark _)) (vss_cons (vs_set (i := 2) sc__law_take.nd (ve_mod (ve_ix (ve_var 0) ve_int) (ve_var 1)))
    (vss_cons (vs_setIx (ve_fdiv (ve_ix (ve_var 0) ve_int) (ve_var 1)) (vp_var 0) ve_int)
    (vss_one (vs_retV 2)))) vss_nil)
    (vss_cons (vs_setIx (ve_mod (ve_mul (ve_ix (ve_var 0) ve_int) ve_int) ve_int) (vp_var 0) ve_int)
    (vss_one (vs_ret (vn_dat (ve_mod (ve_fdiv (ve_mod (ve_mul (ve_ix (ve_var 0) ve_int) (ve_ix (ve_var 0) ve_int)) ve_int) ve_int) (ve_var 1)))))))
noncomputable abbrev N__law_sums : List Str := ["told", "closed", "left", "found", "first", "last", "count", "word", "rows", "price"]
theorem sc__law_sums : FnScope N__law_sums ["told"] (defScope st__law_sums) := ⟨rfl, rfl, rfl, by decide +kernel, rfl, by decide +kernel, by decide +kernel⟩
theorem ok__law_sums (A : All K w mg a) : FnOk P w K mg base CX0 1 a.f__law_sums a.d__law_sums ["told"] (spV K Wx0 1 F__law_sums) :=
  fn_ok (k := 0) A.F__law_sums sc__law_sums fun cdv Ar outer s H E hr => by
   have A := A
   exact (vss_cons (vs_asg (ve_var 0) (vg_tup rfl (vgs_cons (vg_name (i := 1) sc__law_sums.nd) (vgs_cons (vg_name (i := 2) sc__law_sums.nd) vgs_nil))))
    (vss_cons (vs_setN (i := 3) sc__law_sums.nd (vn_dt (T := [])))
    (vss_cons (vs_for PassesOwn.never rfl (vi_seq (ve_var 1)) (vg_tup rfl (vgs_cons (vg_name (i := 4) sc__law_sums.nd) (vgs_cons (vg_name (i := 5) sc__law_sums.nd) (vgs_cons (vg_name (i := 6) sc__law_sums.nd) (vgs_cons (vg_name (i := 7) sc__law_sums.nd) vgs_nil))))) (vss_one (vs_dput (hu1 (hu65 hr)) (ve_add (ve_dget2 (hu1 (hu65 hr)) (vp_var 3) (ve_tup (va_cons (ve_var 4) (va_cons (ve_var 5) (va_cons (ve_var 7) va_nil)))) ve_int) (ve_var 6)) (vp_var 3) (ve_tup (va_cons (ve_var 4) (va_cons (ve_var 5) (va_cons (ve_var 7) va_nil)))))))
    (vss_cons (vs_setN (i := 8) sc__law_sums.nd (vn_dk (T := [])))
    (vss_cons (vs_for PassesOwn.never rfl (vi_seq (ve_ix (ve_var 2) ve_int)) (vg_tup rfl (vgs_cons (vg_name (i := 9) sc__law_sums.nd) (vgs_cons (vg_name (i := 6) sc__law_sums.nd) vgs_nil))) (vss_one (vs_dput (hu1 (hu65 hr)) (ve_add (ve_dget2 (hu1 (hu65 hr)) (vp_var 8) (ve_var 9) ve_int) (ve_var 6)) (vp_var 8) (ve_var 9))))
    (vss_one (vs_ret (vn_lst (va_cons (ve_sortIt rfl (hu65 hr) (by rfl) A.n_sorted (vp_var 3)) (va_cons (ve_ix (ve_var 2) ve_int) (va_cons (ve_sortIt rfl (hu65 hr) (by rfl) A.n_sorted (vp_var 8)) va_nil)))))))))))
noncomputable abbrev N__law_turned : List Str := ["told", "words", "closed", "left", "row"]
theorem sc__law_turned : FnScope N__law_turned ["told"] (defScope st__law_turned) := ⟨rfl, rfl, rfl, by decide +kernel, rfl, by decide +kernel, by decide +kernel⟩
theorem ok__law_turned (A : All K w mg a) : FnOk P w K mg base CX0 1 a.f__law_turned a.d__law_turned ["told"] (spV K Wx0 1 F__law_turned) :=
  fn_ok (k := 0) A.F__law_turned sc__law_turned fun cdv Ar outer s H E hr => by
   have A := A
   exact (vss_cons (vs_setN (i := 1) sc__law_turned.nd (vn_disp (vdt_cons (ve_strC e_had) (vn_dat (ve_strC e_owed)) (vdt_cons (ve_strC e_owed) (vn_dat (ve_strC e_had)) (vdt_cons (ve_strC e_has) (vn_dat (ve_strC e_owes)) (vdt_cons (ve_strC e_owes) (vn_dat (ve_strC e_has)) (vdt_cons (ve_strC e_nothing) (vn_dat (ve_strC e_nothing)) vdt_nil)))))))
    (vss_cons (vs_asg (ve_var 0) (vg_tup rfl (vgs_cons (vg_name (i := 2) sc__law_turned.nd) (vgs_cons (vg_name (i := 3) sc__law_turned.nd) vgs_nil))))
    (vss_one (vs_ret (vn_tupT (vns_cons (vn_comp (own := [("row", 4)]) rfl sc__law_turned.nd (vi_seq (ve_var 2)) (blkOk_by (own := [("row", 4)]) (N := N__law_turned) (sc := defScope st__law_turned) (by decide +kernel)) (fun _ _ _ _ _ => (vg_name (i := 4) sc__law_turned.nd)) (by decide) (fun _ _ _ _ _ => vts_nil) (fun _ _ _ _ _ => (ve_add (ve_cut (ve_var 4) vo_none (vo_some ve_int)) (ve_tup (va_cons (ve_dget (hu1 (hu65 hr)) (vp_var 1) (ve_ix (ve_var 4) ve_int)) va_nil))))) (vns_cons (vn_dat (ve_tup (va_cons (ve_dget (hu1 (hu65 hr)) (vp_var 1) (ve_ix (ve_var 3) ve_int)) (va_cons (ve_ix (ve_var 3) ve_int) va_nil)))) vns_nil)))))))
noncomputable abbrev N__law_unlike : List Str := ["deals", "member", "rows", "row"]
theorem sc__law_unlike : FnScope N__law_unlike ["deals", "member"] (defScope st__law_unlike) := ⟨rfl, rfl, rfl, by decide +kernel, rfl, by decide +kernel, by decide +kernel⟩
theorem ok__law_unlike (A : All K w mg a) : FnOk P w K mg base CX0 1 a.f__law_unlike a.d__law_unlike ["deals", "member"] (spV K Wx0 2 F__law_unlike) :=
  fn_ok (k := 0) A.F__law_unlike sc__law_unlike fun cdv Ar outer s H E hr => by
   have A := A
   exact (vss_cons (vs_setCompV (i := 2) (own := [("row", 3)]) rfl sc__law_unlike.nd (vi_seq (ve_var 0)) (blkOk_by (own := [("row", 3)]) (N := N__law_unlike) (sc := defScope st__law_unlike) (by decide +kernel)) (fun _ _ _ _ _ => (vg_name (i := 3) sc__law_unlike.nd)) (by decide) (fun _ _ _ _ _ => (vts_one (vt_cmp (op_inA (hu65 hr)) ok_inD (ve_var 1) (ve_cut (ve_var 3) vo_none (vo_some ve_int)) rfl))) (fun _ _ _ _ _ => (ve_tup (va_cons (ve_ix (ve_var 3) ve_int) (va_cons (ve_ix (ve_var 3) ve_int) (va_cons (ve_add (ve_ix (ve_var 3) ve_int) (ve_ix (ve_var 3) ve_int)) (va_cons (ve_ix (ve_var 3) ve_int) va_nil)))))))
    (vss_one (vs_ret (vn_dat (ve_cmp (op_eqD hr.units) ok_eqD (ve_lenSetI rfl hr.units (by rfl) A.n_len (by rfl) A.n_set (ve_var 2)) (ve_callB call_len ok_lenD (by rfl) A.n_len (by decide +kernel) (va_cons (ve_var 2) va_nil)) (nomark _))))))
noncomputable abbrev N_pieces : List Str := ["deals", "member", "closed", "rows", "held", "moment", "price", "other", "count", "side", "word", "elder", "left", "many"]
theorem sc_pieces : FnScope N_pieces ["deals", "member"] (defScope st_pieces) := ⟨rfl, rfl, rfl, by decide +kernel, rfl, by decide +kernel, by decide +kernel⟩
theorem ok_pieces (A : All K w mg a) : FnOk P w K mg base CX0 2 a.f_pieces a.d_pieces ["deals", "member"] (spV K Wx0 2 SM.F_pieces) :=
  fn_ok (k := 1) A.F_pieces sc_pieces fun cdv Ar outer s H E hr => by
   have A := A
   exact (vss_cons (vs_setN (i := 2) sc_pieces.nd (vn_lst va_nil))
    (vss_cons (vs_setN (i := 3) sc_pieces.nd (vn_lst va_nil))
    (vss_cons (vs_set (i := 4) sc_pieces.nd ve_int)
    (vss_cons (vs_for PassesOwn.never rfl (vi_seq (ve_frz (vn_call (Ts := [0, 1]) (ok_deals_of A) (hr.mono (by decide)) rfl A.m_deals_of A.F_deals_of.kp A.b_deals_of (va_cons (ve_var 0) (va_cons (ve_var 1) va_nil))))) (vg_tup rfl (vgs_cons (vg_name (i := 5) sc_pieces.nd) (vgs_cons (vg_name (i := 6) sc_pieces.nd) (vgs_cons (vg_name (i := 7) sc_pieces.nd) (vgs_cons (vg_name (i := 8) sc_pieces.nd) (vgs_cons (vg_name (i := 9) sc_pieces.nd) vgs_nil)))))) (vss_cons (vs_set (i := 10) sc_pieces.nd (ve_ix (ve_frz (vn_lst (va_cons (ve_glob (v := .str s_owed) rfl A.m_OWED.choose_spec ⟨_, congrArg (fun z => Value.str z _) e_owed⟩ (fun _ => .str _)) (va_cons (ve_glob (v := .str s_had) rfl A.m_HAD.choose_spec ⟨_, congrArg (fun z => Value.str z _) e_had⟩ (fun _ => .str _)) va_nil)))) (ve_var 9)))
    (vss_cons (vs_while (n := SM.fuel) PassesOwn.never (vw_pt (vw_and (vt_cmp op_gt ok_icmp (ve_var 8) ve_int (nomark _)) (vw_and (vt_cmp (op_neD hr.units) ok_neD (ve_var 3) (ve_frz (vn_lst va_nil)) (nomark _)) (vw_and1 (vt_cmp (op_eqD hr.units) ok_eqD (ve_var 4) (ve_var 9) (nomark _)))))) (vss_cons (vs_asg (ve_ix (ve_var 3) ve_int) (vg_tup rfl (vgs_cons (vg_name (i := 11) sc_pieces.nd) (vgs_cons (vg_name (i := 12) sc_pieces.nd) vgs_nil))))
    (vss_cons (vs_set (i := 13) sc_pieces.nd (ve_callB (call_min2 rfl) ok_min2D (by rfl) A.n_min (by decide +kernel) (va_cons (ve_var 12) (va_cons (ve_var 8) va_nil))))
    (vss_cons (vs_appd (vp_var 2) (vn_dat (ve_tup (va_cons (ve_var 11) (va_cons (ve_var 6) (va_cons (ve_var 13) (va_cons (ve_var 10) va_nil)))))))
    (vss_cons (vs_aug (i := 8) sc_pieces.nd (ve_var 13) ip_sub)
    (vss_one (vs_setN (i := 3) sc_pieces.nd (vn_cat (ve_rep (ve_frz (vn_lst (va_cons (ve_tup (va_cons (ve_var 11) (va_cons (ve_sub (ve_var 12) (ve_var 13)) va_nil))) va_nil))) (ve_callTy call_int1 ok_intD (by rfl) A.n_int (by decide +kernel) (va_cons (ve_cmp op_gt ok_icmp (ve_var 12) (ve_var 13) (nomark _)) va_nil))) (ve_cut (ve_var 3) (vo_some ve_int) vo_none)))))))))
    (vss_one (vs_if (vt_cmp op_gt ok_icmp (ve_var 8) ve_int (nomark _)) (vss_cons (vs_set (i := 4) sc_pieces.nd (ve_sub ve_int (ve_var 9)))
    (vss_one (vs_appd (vp_var 3) (vn_dat (ve_tup (va_cons (ve_var 6) (va_cons (ve_var 8) va_nil))))))) vss_nil)))))
    (vss_cons (vs_if (vt_cmp (op_eqD hr.units) ok_eqD (ve_var 3) (ve_frz (vn_lst va_nil)) (nomark _)) (vss_one (vs_ret (vn_tupT (vns_cons (vn_mv 2) (vns_cons (vn_tupT (vns_cons (vn_dat (ve_strC e_nothing)) (vns_cons (vn_lst va_nil) vns_nil))) vns_nil))))) vss_nil)
    (vss_one (vs_ret (vn_tupT (vns_cons (vn_mv 2) (vns_cons (vn_tupT (vns_cons (vn_dat (ve_ix (ve_frz (vn_lst (va_cons (ve_strC e_owes) (va_cons (ve_strC e_has) va_nil)))) (ve_var 4))) (vns_cons (vn_mv 3) vns_nil))) vns_nil))))))))))
noncomputable abbrev N__law_small_deals : List Str := ["bag", "members", "most", "found", "k", "seller", "buyer"]
theorem sc__law_small_deals : FnScope N__law_small_deals ["bag", "members", "most"] (defScope st__law_small_deals) := ⟨rfl, rfl, rfl, by decide +kernel, rfl, by decide +kernel, by decide +kernel⟩
theorem ok__law_small_deals (A : All K w mg a) : FnOk P w K mg base CX0 2 a.f__law_small_deals a.d__law_small_deals ["bag", "members", "most"] (spV K Wx0 3 SM.F__law_small_deals) :=
  fn_ok (k := 1) A.F__law_small_deals sc__law_small_deals fun cdv Ar outer s H E hr => by
   have A := A
   exact (vss_cons (vs_setN (i := 3) sc__law_small_deals.nd (vn_lst va_nil))
    (vss_cons (vs_for PassesOwn.never rfl (vi_range1 (by rfl) A.n_range (va_cons (ve_frz (vn_call (Ts := [0]) (ok__law_take A) (hr.mono (by decide)) rfl A.m__law_take A.F__law_take.kp A.b__law_take (va_cons (ve_var 0) (va_cons (ve_add (ve_var 2) ve_int) va_nil)))) va_nil)) (vg_name (i := 4) sc__law_small_deals.nd) (vss_cons (vs_set (i := 5) sc__law_small_deals.nd (ve_frz (vn_call (Ts := [0, 1]) (ok__law_take A) (hr.mono (by decide)) rfl A.m__law_take A.F__law_take.kp A.b__law_take (va_cons (ve_var 0) (va_cons (ve_var 1) va_nil)))))
    (vss_cons (vs_set (i := 6) sc__law_small_deals.nd (ve_mod (ve_add (ve_add (ve_var 5) ve_int) (ve_frz (vn_call (Ts := [0]) (ok__law_take A) (hr.mono (by decide)) rfl A.m__law_take A.F__law_take.kp A.b__law_take (va_cons (ve_var 0) (va_cons (ve_sub (ve_var 1) ve_int) va_nil))))) (ve_var 1)))
    (vss_one (vs_appd (vp_var 3) (vn_dat (ve_tup (va_cons (ve_var 5) (va_cons (ve_var 6) (va_cons (ve_add ve_int (ve_frz (vn_call (Ts := [0]) (ok__law_take A) (hr.mono (by decide)) rfl A.m__law_take A.F__law_take.kp A.b__law_take (va_cons (ve_var 0) (va_cons ve_int va_nil))))) (va_cons (ve_add ve_int (ve_frz (vn_call (Ts := [0]) (ok__law_take A) (hr.mono (by decide)) rfl A.m__law_take A.F__law_take.kp A.b__law_take (va_cons (ve_var 0) (va_cons ve_int va_nil))))) (va_cons (ve_frz (vn_call (Ts := [0]) (ok__law_take A) (hr.mono (by decide)) rfl A.m__law_take A.F__law_take.kp A.b__law_take (va_cons (ve_var 0) (va_cons ve_int va_nil)))) va_nil))))))))))))
    (vss_one (vs_retV 3))))
noncomputable abbrev N_gain : List Str := ["deals", "member", "price", "closed", "left", "total", "first", "last", "count", "word"]
theorem sc_gain : FnScope N_gain ["deals", "member", "price"] (defScope st_gain) := ⟨rfl, rfl, rfl, by decide +kernel, rfl, by decide +kernel, by decide +kernel⟩
theorem ok_gain (A : All K w mg a) : FnOk P w K mg base CX0 3 a.f_gain a.d_gain ["deals", "member", "price"] (spV K Wx0 3 SM.F_gain) :=
  fn_ok (k := 2) A.F_gain sc_gain fun cdv Ar outer s H E hr => by
   have A := A
   exact (vss_cons (vs_asg (ve_frz (vn_call (Ts := [0, 1]) (ok_pieces A) (hr.mono (by decide)) rfl A.m_pieces A.F_pieces.kp A.b_pieces (va_cons (ve_var 0) (va_cons (ve_var 1) va_nil)))) (vg_tup rfl (vgs_cons (vg_name (i := 3) sc_gain.nd) (vgs_cons (vg_name (i := 4) sc_gain.nd) vgs_nil))))
    (vss_cons (vs_set (i := 5) sc_gain.nd ve_int)
    (vss_cons (vs_for PassesOwn.never rfl (vi_seq (ve_var 3)) (vg_tup rfl (vgs_cons (vg_name (i := 6) sc_gain.nd) (vgs_cons (vg_name (i := 7) sc_gain.nd) (vgs_cons (vg_name (i := 8) sc_gain.nd) (vgs_cons (vg_name (i := 9) sc_gain.nd) vgs_nil))))) (vss_one (vs_aug (i := 5) sc_gain.nd (ve_mul (ve_mul (ve_sub (ve_var 7) (ve_var 6)) (ve_var 8)) (ve_sub ve_int (ve_mul ve_int (ve_callTy call_int1 ok_intD (by rfl) A.n_int (by decide +kernel) (va_cons (ve_cmp (op_eqD hr.units) ok_eqD (ve_var 9) (ve_glob (v := .str s_owed) rfl A.m_OWED.choose_spec ⟨_, congrArg (fun z => Value.str z _) e_owed⟩ (fun _ => .str _)) (nomark _)) va_nil))))) ip_add)))
    (vss_cons (vs_for PassesOwn.never rfl (vi_seq (ve_ix (ve_var 4) ve_int)) (vg_tup rfl (vgs_cons (vg_name (i := 6) sc_gain.nd) (vgs_cons (vg_name (i := 8) sc_gain.nd) vgs_nil))) (vss_one (vs_aug (i := 5) sc_gain.nd (ve_mul (ve_mul (ve_sub (ve_var 2) (ve_var 6)) (ve_var 8)) (ve_sub ve_int (ve_mul ve_int (ve_callTy call_int1 ok_intD (by rfl) A.n_int (by decide +kernel) (va_cons (ve_cmp (op_eqD hr.units) ok_eqD (ve_ix (ve_var 4) ve_int) (ve_strC e_owes) (nomark _)) va_nil))))) ip_add)))
    (vss_one (vs_retV 5))))))
noncomputable abbrev N_law : List Str := ["script", "k", "bag", "many", "deals", "at", "seller", "buyer", "price", "count", "moment", "some", "parts", "one", "parted", "turned", "row", "higher", "rows", "lots", "coins", "member", "told", "worth"]
theorem sc_law : FnScope N_law ["script"] (defScope st_law) := ⟨rfl, rfl, rfl, by decide +kernel, rfl, by decide +kernel, by decide +kernel⟩
theorem ok_law (A : All K w mg a) : FnOk P w K mg base CX0 4 a.f_law a.d_law ["script"] (spV K Wx0 1 F_law) :=
  fn_ok (k := 3) A.F_law sc_law fun cdv Ar outer s H E hr => by
   have A := A
   exact (vss_cons (vs_for PassesOwn.never rfl (vi_range1 (by rfl) A.n_range (va_cons (ve_add ve_int (ve_callB (call_min2 rfl) ok_min2D (by rfl) A.n_min (by decide +kernel) (va_cons (ve_callB call_len ok_lenD (by rfl) A.n_len (by decide +kernel) (va_cons (ve_var 0) va_nil)) (va_cons ve_int va_nil)))) va_nil)) (vg_name (i := 1) sc_law.nd) (vss_cons (vs_setN (i := 2) sc_law.nd (vn_call (Ts := [0, 1]) (ok__law_bag A) (hr.mono (by decide)) rfl A.m__law_bag A.F__law_bag.kp A.b__law_bag (va_cons (ve_var 0) (va_cons (ve_var 1) va_nil))))
    (vss_cons (vs_set (i := 3) sc_law.nd (ve_add ve_int (ve_frz (vn_call (Ts := [2]) (ok__law_take A) (hr.mono (by decide)) rfl A.m__law_take A.F__law_take.kp A.b__law_take (va_cons (ve_var 2) (va_cons ve_int va_nil))))))
    (vss_cons (vs_set (i := 4) sc_law.nd (ve_add (ve_frz (vn_call (Ts := [2, 3]) (ok__law_small_deals A) (hr.mono (by decide)) rfl A.m__law_small_deals A.F__law_small_deals.kp A.b__law_small_deals (va_cons (ve_var 2) (va_cons (ve_var 3) (va_cons ve_int va_nil))))) (ve_frz (vn_lst (va_cons (ve_tup (va_cons ve_int (va_cons ve_int (va_cons ve_int (va_cons ve_int (va_cons ve_int va_nil)))))) va_nil)))))
    (vss_cons (vs_set (i := 5) sc_law.nd (ve_frz (vn_call (Ts := [2]) (ok__law_take A) (hr.mono (by decide)) rfl A.m__law_take A.F__law_take.kp A.b__law_take (va_cons (ve_var 2) (va_cons (ve_callB call_len ok_lenD (by rfl) A.n_len (by decide +kernel) (va_cons (ve_var 4) va_nil)) va_nil)))))
    (vss_cons (vs_asg (ve_ix (ve_var 4) (ve_var 5)) (vg_tup rfl (vgs_cons (vg_name (i := 6) sc_law.nd) (vgs_cons (vg_name (i := 7) sc_law.nd) (vgs_cons (vg_name (i := 8) sc_law.nd) (vgs_cons (vg_name (i := 9) sc_law.nd) (vgs_cons (vg_name (i := 10) sc_law.nd) vgs_nil)))))))
    (vss_cons (vs_set (i := 11) sc_law.nd (ve_frz (vn_call (Ts := [2, 9]) (ok__law_take A) (hr.mono (by decide)) rfl A.m__law_take A.F__law_take.kp A.b__law_take (va_cons (ve_var 2) (va_cons (ve_var 9) va_nil)))))
    (vss_cons (vs_setCompV (i := 12) (own := [("one", 13)]) rfl sc_law.nd (vi_seq (ve_tup (va_cons (ve_var 11) (va_cons (ve_sub (ve_var 9) (ve_var 11)) va_nil)))) (blkOk_by (own := [("one", 13)]) (N := N_law) (sc := defScope st_law) (by decide +kernel)) (fun _ _ _ _ _ => (vg_name (i := 13) sc_law.nd)) (by decide) (fun _ _ _ _ _ => (vts_one (vt_cmp op_gt ok_icmp (ve_var 13) ve_int (nomark _)))) (fun _ _ _ _ _ => (ve_tup (va_cons (ve_var 6) (va_cons (ve_var 7) (va_cons (ve_var 8) (va_cons (ve_var 13) (va_cons (ve_var 10) va_nil))))))))
    (vss_cons (vs_set (i := 14) sc_law.nd (ve_add (ve_add (ve_cut (ve_var 4) vo_none (vo_some (ve_var 5))) (ve_var 12)) (ve_cut (ve_var 4) (vo_some (ve_add (ve_var 5) ve_int)) vo_none)))
    (vss_cons (vs_setCompV (i := 15) (own := [("row", 16)]) rfl sc_law.nd (vi_seq (ve_var 4)) (blkOk_by (own := [("row", 16)]) (N := N_law) (sc := defScope st_law) (by decide +kernel)) (fun _ _ _ _ _ => (vg_name (i := 16) sc_law.nd)) (by decide) (fun _ _ _ _ _ => vts_nil) (fun _ _ _ _ _ => (ve_add (ve_tup (va_cons (ve_ix (ve_var 16) ve_int) (va_cons (ve_ix (ve_var 16) ve_int) va_nil))) (ve_cut (ve_var 16) (vo_some ve_int) vo_none))))
    (vss_cons (vs_setCompV (i := 17) (own := [("row", 16)]) rfl sc_law.nd (vi_seq (ve_var 4)) (blkOk_by (own := [("row", 16)]) (N := N_law) (sc := defScope st_law) (by decide +kernel)) (fun _ _ _ _ _ => (vg_name (i := 16) sc_law.nd)) (by decide) (fun _ _ _ _ _ => vts_nil) (fun _ _ _ _ _ => (ve_add (ve_add (ve_cut (ve_var 16) vo_none (vo_some ve_int)) (ve_tup (va_cons (ve_add (ve_ix (ve_var 16) ve_int) ve_int) va_nil))) (ve_cut (ve_var 16) (vo_some ve_int) vo_none))))
    (vss_cons (vs_set (i := 18) sc_law.nd (ve_frz (vn_call (Ts := [3]) (ok_stands A) (hr.mono (by decide)) rfl A.m_stands A.F_stands.kp A.b_stands (va_cons (ve_var 3) (va_cons (ve_callTy call_list_of ok_listD (by rfl) A.n_list (by decide +kernel) (va_cons (ve_var 4) va_nil)) va_nil)))))
    (vss_cons (vs_if (vt_cmp (op_neD hr.units) ok_neD (ve_frz (vn_call (Ts := [3, 14]) (ok_stands A) (hr.mono (by decide)) rfl A.m_stands A.F_stands.kp A.b_stands (va_cons (ve_var 3) (va_cons (ve_var 14) va_nil)))) (ve_var 18) (nomark _)) (vss_one (vs_ret (vn_dat ve_bl))) vss_nil)
    (vss_cons (vs_if (vt_cmp (op_neD hr.units) ok_neD (ve_frz (vn_call (Ts := [3, 15]) (ok_stands A) (hr.mono (by decide)) rfl A.m_stands A.F_stands.kp A.b_stands (va_cons (ve_var 3) (va_cons (ve_var 15) va_nil)))) (ve_frz (vn_comp (own := [("lots", 19), ("coins", 20)]) rfl sc_law.nd (vi_seq (ve_var 18)) (blkOk_by (own := [("lots", 19), ("coins", 20)]) (N := N_law) (sc := defScope st_law) (by decide +kernel)) (fun _ _ _ _ _ => (vg_tupK (K := K) rfl (vgs_cons (vg_name (i := 19) sc_law.nd) (vgs_cons (vg_name (i := 20) sc_law.nd) vgs_nil)))) (by decide) (fun _ _ _ _ _ => vts_nil) (fun _ _ _ _ _ => (ve_tup (va_cons (ve_sub ve_int (ve_var 19)) (va_cons (ve_sub ve_int (ve_var 20)) va_nil)))))) (nomark _)) (vss_one (vs_ret (vn_dat ve_bl))) vss_nil)
    (vss_one (vs_for PassesOwn.never rfl (vi_range1 (by rfl) A.n_range (va_cons (ve_var 3) va_nil)) (vg_name (i := 21) sc_law.nd) (vss_cons (vs_set (i := 22) sc_law.nd (ve_frz (vn_call (Ts := [21]) (ok_pieces A) (hr.mono (by decide)) rfl A.m_pieces A.F_pieces.kp A.b_pieces (va_cons (ve_callTy call_list_of ok_listD (by rfl) A.n_list (by decide +kernel) (va_cons (ve_var 4) va_nil)) (va_cons (ve_var 21) va_nil)))))
    (vss_cons (vs_set (i := 23) sc_law.nd (ve_frz (vn_call (Ts := [21]) (ok_gain A) (hr.mono (by decide)) rfl A.m_gain A.F_gain.kp A.b_gain (va_cons (ve_callTy call_list_of ok_listD (by rfl) A.n_list (by decide +kernel) (va_cons (ve_var 4) va_nil)) (va_cons (ve_var 21) (va_cons ve_int va_nil))))))
    (vss_cons (vs_if (vw_pt (vw_or (vt_cmp (op_neD hr.units) ok_neD (ve_frz (vn_call (Ts := [14, 21]) (ok_gain A) (hr.mono (by decide)) rfl A.m_gain A.F_gain.kp A.b_gain (va_cons (ve_var 14) (va_cons (ve_var 21) (va_cons ve_int va_nil))))) (ve_var 23) (nomark _)) (vw_or1 (vt_cmp (op_neD hr.units) ok_neD (ve_add (ve_frz (vn_call (Ts := [15, 21]) (ok_gain A) (hr.mono (by decide)) rfl A.m_gain A.F_gain.kp A.b_gain (va_cons (ve_var 15) (va_cons (ve_var 21) (va_cons ve_int va_nil))))) (ve_var 23)) ve_int (nomark _))))) (vss_one (vs_ret (vn_dat ve_bl))) vss_nil)
    (vss_cons (vs_if (vt_cmp (op_neD hr.units) ok_neD (ve_frz (vn_call (Ts := [17, 21]) (ok_gain A) (hr.mono (by decide)) rfl A.m_gain A.F_gain.kp A.b_gain (va_cons (ve_var 17) (va_cons (ve_var 21) (va_cons ve_int va_nil))))) (ve_var 23) (nomark _)) (vss_one (vs_ret (vn_dat ve_bl))) vss_nil)
    (vss_cons (vs_if (vt_cmp (op_neD hr.units) ok_neD (ve_cut (ve_frz (vn_call (Ts := []) (ok__law_sums A) (hr.mono (by decide)) rfl A.m__law_sums A.F__law_sums.kp A.b__law_sums (va_cons (ve_frz (vn_call (Ts := [14, 21]) (ok_pieces A) (hr.mono (by decide)) rfl A.m_pieces A.F_pieces.kp A.b_pieces (va_cons (ve_var 14) (va_cons (ve_var 21) va_nil)))) va_nil))) (vo_some ve_int) vo_none) (ve_cut (ve_frz (vn_call (Ts := [22]) (ok__law_sums A) (hr.mono (by decide)) rfl A.m__law_sums A.F__law_sums.kp A.b__law_sums (va_cons (ve_var 22) va_nil))) (vo_some ve_int) vo_none) (nomark _)) (vss_one (vs_ret (vn_dat ve_bl))) vss_nil)
    (vss_one (vs_if (vw_pt (vw_and (vt_val (ve_frz (vn_call (Ts := [4, 21]) (ok__law_unlike A) (hr.mono (by decide)) rfl A.m__law_unlike A.F__law_unlike.kp A.b__law_unlike (va_cons (ve_var 4) (va_cons (ve_var 21) va_nil))))) (vw_and1 (vt_cmp (op_neD hr.units) ok_neD (ve_frz (vn_call (Ts := [15, 21]) (ok_pieces A) (hr.mono (by decide)) rfl A.m_pieces A.F_pieces.kp A.b_pieces (va_cons (ve_var 15) (va_cons (ve_var 21) va_nil)))) (ve_frz (vn_call (Ts := [22]) (ok__law_turned A) (hr.mono (by decide)) rfl A.m__law_turned A.F__law_turned.kp A.b__law_turned (va_cons (ve_var 22) va_nil))) (nomark _))))) (vss_one (vs_ret (vn_dat ve_bl))) vss_nil)))))))))))))))))))))))
    (vss_one (vs_ret (vn_dat ve_bl))))
end
end K37

end

section
set_option Elab.async false
set_option linter.all false
set_option maxRecDepth 100000
namespace PC
open PySem PySem.Spec PyProof.Rows L2 VL
structure Rw where
  m : Int
  p : Int
  o : Int
  c : Nat
  d : Bool
structure Op where
  p : Int
  c : Nat
  k : Nat
structure Cl where
  e : Int
  p : Int
  n : Nat
  w : Bool
  ek : Nat
  k : Nat
structure St where
  cl : List Cl
  op : List Op
  h : Bool
noncomputable def closeL (p : Int) (w : Bool) (k : Nat) : Nat → List Op → List Cl × Nat × List Op
  | c, [] => ([], c, [])
  | c, o :: op => if c = 0 then ([], 0, o :: op) else if c < o.c then ([⟨o.p, p, c, w, o.k, k⟩], 0, ⟨o.p, o.c - c, o.k⟩ :: op)
    else ((⟨o.p, p, o.c, w, o.k, k⟩ : Cl) :: (closeL p w k (c - o.c) op).1, (closeL p w k (c - o.c) op).2)
noncomputable def lay (p : Int) (c k : Nat) (op : List Op) : List Op := if 0 < c then op ++ [⟨p, c, k⟩] else op
noncomputable def stepR (k : Nat) (s : St) (r : Rw) : St :=
  if s.h = r.d then ⟨s.cl ++ (closeL r.p r.d k r.c s.op).1, lay r.p (closeL r.p r.d k r.c s.op).2.1 k (closeL r.p r.d k r.c s.op).2.2, if 0 < (closeL r.p r.d k r.c s.op).2.1 then !r.d else s.h⟩
  else ⟨s.cl, lay r.p r.c k s.op, if 0 < r.c then !r.d else s.h⟩
noncomputable def pcs : Nat → St → List Rw → St
  | _, s, [] => s
  | k, s, r :: rs => pcs (k + 1) (stepR k s r) rs
noncomputable def st0 : St := ⟨[], [], false⟩
theorem pcs_snoc {r : Rw} : ∀ {rs : List Rw} {k : Nat} {s : St}, pcs k s (rs ++ [r]) = stepR (k + rs.length) (pcs k s rs) r
  | [], k, s => rfl
  | q :: rs, k, s => by
    rw [List.cons_append, pcs, pcs_snoc, pcs, List.length_cons]
    have : k + 1 + rs.length = k + (rs.length + 1) := by omega
    rw [this]
noncomputable def Rw.by (b : Nat) (r : Rw) : Rw := ⟨r.m, r.p, r.o, r.c * b, r.d⟩
noncomputable def Op.by (b : Nat) (o : Op) : Op := ⟨o.p, o.c * b, o.k⟩
noncomputable def Cl.by (b : Nat) (o : Cl) : Cl := ⟨o.e, o.p, o.n * b, o.w, o.ek, o.k⟩
noncomputable def St.by (b : Nat) (s : St) : St := ⟨s.cl.map (Cl.by b), s.op.map (Op.by b), s.h⟩
structure Lt where
  p : Int
  d : Bool
  k : Nat
noncomputable def lotsOf (r : Rw) (k : Nat) : List Lt := List.replicate r.c ⟨r.p, r.d, k⟩
noncomputable def allLots : Nat → List Rw → List Lt
  | _, [] => []
  | k, r :: rs => lotsOf r k ++ allLots (k + 1) rs
noncomputable def bump (cl : List Cl) (c : Cl) : List Cl := match cl.getLast? with
  | some z => if z.ek = c.ek ∧ z.k = c.k then cl.dropLast ++ [{ z with n := z.n + 1 }] else cl ++ [c]
  | none => cl ++ [c]
noncomputable def lotStep (s : List Cl × List Lt) (l : Lt) : List Cl × List Lt := match s.2 with
  | e :: rest => if e.d = l.d then (s.1, s.2 ++ [l]) else (bump s.1 ⟨e.p, l.p, 1, l.d, e.k, l.k⟩, rest)
  | [] => (s.1, [l])
noncomputable def flatO (d : Bool) (op : List Op) : List Lt := op.flatMap fun o => List.replicate o.c ⟨o.p, d, o.k⟩
theorem lay_fold {l : Lt} : ∀ (n : Nat) {cl : List Cl} {left : List Lt}, (∀ e ∈ left, e.d = l.d) → (List.replicate n l).foldl lotStep (cl, left) = (cl, left ++ List.replicate n l)
  | 0, cl, left, _ => by simp
  | n + 1, cl, left, h => by
    rw [List.replicate_succ, List.foldl_cons]
    have e : lotStep (cl, left) l = (cl, left ++ [l]) := by
      unfold lotStep
      cases left with
      | nil => rfl
      | cons e rest => simp [h e List.mem_cons_self]
    rw [e, lay_fold n]
    · simp [List.append_assoc]
    · intro e he
      rcases List.mem_append.mp he with he | he
      · exact h e he
      · rw [List.mem_singleton.mp he]
noncomputable def noMatch (cl : List Cl) (ek k : Nat) : Prop := ∀ z, cl.getLast? = some z → ¬ (z.ek = ek ∧ z.k = k)
theorem bump_new {cl : List Cl} {c : Cl} (h : noMatch cl c.ek c.k) : bump cl c = cl ++ [c] := by
  unfold bump
  cases q : cl.getLast? with
  | none => rfl
  | some z => simp only; rw [if_neg (h z q)]
theorem bump_old {cl : List Cl} {z c : Cl} (h : z.ek = c.ek ∧ z.k = c.k) : bump (cl ++ [z]) c = cl ++ [{ z with n := z.n + 1 }] := by
  unfold bump
  simp [h]
theorem elder_fold {l e : Lt} (hd : e.d ≠ l.d) {rest : List Lt} : ∀ (n : Nat) {m a : Nat} {cl : List Cl}, n ≤ m → (List.replicate n l).foldl lotStep (cl ++ [⟨e.p, l.p, a, l.d, e.k, l.k⟩], List.replicate m e ++ rest) = (cl ++ [⟨e.p, l.p, a + n, l.d, e.k, l.k⟩], List.replicate (m - n) e ++ rest)
  | 0, m, a, cl, _ => by simp
  | n + 1, m + 1, a, cl, h => by
    rw [show List.replicate (n + 1) l = l :: List.replicate n l from List.replicate_succ, List.foldl_cons]
    have e1 : lotStep (cl ++ [⟨e.p, l.p, a, l.d, e.k, l.k⟩], List.replicate (m + 1) e ++ rest) l = (cl ++ [⟨e.p, l.p, a + 1, l.d, e.k, l.k⟩], List.replicate m e ++ rest) := by
      unfold lotStep
      rw [List.replicate_succ]
      simp only [List.cons_append]
      rw [if_neg hd, bump_old (z := ⟨e.p, l.p, a, l.d, e.k, l.k⟩) (c := ⟨e.p, l.p, 1, l.d, e.k, l.k⟩) ⟨rfl, rfl⟩]
    rw [e1, elder_fold hd n (by omega)]
    have e2 : a + 1 + n = a + (n + 1) := by omega
    have e3 : m + 1 - (n + 1) = m - n := by omega
    rw [e2, e3]
theorem elder_fold1 {l e : Lt} (hd : e.d ≠ l.d) {rest : List Lt} {n m : Nat} {cl : List Cl} (hn : 0 < n) (hm : n ≤ m) (hc : noMatch cl e.k l.k) : (List.replicate n l).foldl lotStep (cl, List.replicate m e ++ rest) = (cl ++ [⟨e.p, l.p, n, l.d, e.k, l.k⟩], List.replicate (m - n) e ++ rest) := by
  obtain ⟨n, rfl⟩ : ∃ i, n = i + 1 := ⟨n - 1, by omega⟩
  obtain ⟨m, rfl⟩ : ∃ i, m = i + 1 := ⟨m - 1, by omega⟩
  rw [show List.replicate (n + 1) l = l :: List.replicate n l from List.replicate_succ, List.foldl_cons]
  have e1 : lotStep (cl, List.replicate (m + 1) e ++ rest) l = (cl ++ [⟨e.p, l.p, 1, l.d, e.k, l.k⟩], List.replicate m e ++ rest) := by
    unfold lotStep
    rw [List.replicate_succ]
    simp only [List.cons_append]
    rw [if_neg hd, bump_new hc]
  rw [e1, elder_fold hd n (by omega)]
  have e2 : 1 + n = n + 1 := by omega
  have e3 : m + 1 - (n + 1) = m - n := by omega
  rw [e2, e3]
theorem closeL_left {p : Int} {w : Bool} {k : Nat} : ∀ {op : List Op} {c : Nat}, 0 < (closeL p w k c op).2.1 → (closeL p w k c op).2.2 = []
  | [], c, _ => rfl
  | o :: op, c, h => by
    simp only [closeL] at h ⊢
    split at h
    · simp at h
    · split at h
      · simp at h
      · rename_i h0 h1
        rw [if_neg h0, if_neg h1]
        exact closeL_left h
theorem close_fold {p : Int} {w d' : Bool} {k : Nat} (hd : d' ≠ w) : ∀ {op : List Op} {c : Nat} {cl : List Cl}, (∀ o ∈ op, 0 < o.c) → (op.map (·.k)).Nodup → (∀ o, op.head? = some o → noMatch cl o.k k) →
    (List.replicate c (⟨p, w, k⟩ : Lt)).foldl lotStep (cl, flatO d' op) = (cl ++ (closeL p w k c op).1, flatO d' (closeL p w k c op).2.2 ++ List.replicate (closeL p w k c op).2.1 ⟨p, w, k⟩)
  | [], c, cl, _, _, _ => by
    have := lay_fold (l := ⟨p, w, k⟩) c (cl := cl) (left := []) (fun e he => nomatch he)
    simpa [closeL, flatO] using this
  | o :: op, c, cl, hc, hn, hm => by
    have ho := hc o List.mem_cons_self
    rw [List.map_cons, List.nodup_cons] at hn
    have ef : flatO d' (o :: op) = List.replicate o.c ⟨o.p, d', o.k⟩ ++ flatO d' op := by simp [flatO]
    simp only [closeL]
    by_cases h0 : c = 0
    · subst h0; simp
    · rw [if_neg h0]
      by_cases h1 : c < o.c
      · rw [if_pos h1, ef, elder_fold1 (l := ⟨p, w, k⟩) (e := ⟨o.p, d', o.k⟩) hd (by omega) (by omega) (hm o rfl)]
        simp [flatO]
      · rw [if_neg h1]
        have es : List.replicate c (⟨p, w, k⟩ : Lt) = List.replicate o.c ⟨p, w, k⟩ ++ List.replicate (c - o.c) ⟨p, w, k⟩ := by
          rw [List.replicate_append_replicate]
          congr 1
          omega
        rw [es, List.foldl_append, ef, elder_fold1 (l := ⟨p, w, k⟩) (e := ⟨o.p, d', o.k⟩) hd ho (Nat.le_refl _) (hm o rfl)]
        simp only [Nat.sub_self, List.replicate_zero, List.nil_append]
        rw [close_fold hd (fun q hq => hc q (List.mem_cons_of_mem _ hq)) hn.2]
        · simp [List.append_assoc]
        · intro q hq z hz
          rw [List.getLast?_concat] at hz
          cases hz
          intro ⟨hz, _⟩
          apply hn.1
          cases op with
          | nil => cases hq
          | cons q' op => cases hq; simp at hz ⊢; exact .inl hz
structure StOk (k : Nat) (s : St) : Prop where
  pos : ∀ o ∈ s.op, 0 < o.c
  nd : (s.op.map (·.k)).Nodup
  lt : ∀ o ∈ s.op, o.k < k
  cl : ∀ c ∈ s.cl, c.k < k
theorem closeL_ok {p : Int} {w : Bool} {k : Nat} : ∀ {op : List Op} {c : Nat}, (∀ o ∈ op, 0 < o.c) → (∀ o ∈ (closeL p w k c op).2.2, 0 < o.c) ∧ ((closeL p w k c op).2.2.map (·.k)).Sublist (op.map (·.k)) ∧ ∀ x ∈ (closeL p w k c op).1, x.k = k
  | [], c, h => by simp [closeL]
  | o :: op, c, h => by
    obtain ⟨a1, a2, a3⟩ := closeL_ok (p := p) (w := w) (k := k) (op := op) (c := c - o.c) fun q hq => h q (List.mem_cons_of_mem _ hq)
    simp only [closeL]
    by_cases h0 : c = 0
    · rw [if_pos h0]; exact ⟨h, List.Sublist.refl _, fun x hx => nomatch hx⟩
    · rw [if_neg h0]
      by_cases h1 : c < o.c
      · rw [if_pos h1]
        refine ⟨fun q hq => ?_, by simp, fun x hx => ?_⟩
        · rcases List.mem_cons.mp hq with z | z
          · rw [z]; show 0 < o.c - c; omega
          · exact h q (List.mem_cons_of_mem _ z)
        · rw [List.mem_singleton.mp hx]
      · rw [if_neg h1]
        refine ⟨a1, a2.trans (by simp), fun x hx => ?_⟩
        rcases List.mem_cons.mp hx with z | z
        · rw [z]
        · exact a3 x z
theorem lay_ok {p : Int} {c k : Nat} {op : List Op} (h1 : ∀ o ∈ op, 0 < o.c) (h2 : (op.map (·.k)).Nodup) (h3 : ∀ o ∈ op, o.k < k) : (∀ o ∈ lay p c k op, 0 < o.c) ∧ ((lay p c k op).map (·.k)).Nodup ∧ ∀ o ∈ lay p c k op, o.k < k + 1 := by
  unfold lay
  split
  · rename_i hc
    refine ⟨fun o ho => ?_, ?_, fun o ho => ?_⟩
    · rcases List.mem_append.mp ho with z | z
      · exact h1 o z
      · rw [List.mem_singleton.mp z]; exact hc
    · rw [List.map_append, List.nodup_append]
      refine ⟨h2, by simp, fun a ha b hb => ?_⟩
      obtain ⟨o, ho, rfl⟩ := List.mem_map.mp ha
      simp at hb
      subst hb
      have := h3 o ho
      omega
    · rcases List.mem_append.mp ho with z | z
      · have := h3 o z; omega
      · rw [List.mem_singleton.mp z]; show k < k + 1; omega
  · exact ⟨h1, h2, fun o ho => by have := h3 o ho; omega⟩
theorem StOk.step {k : Nat} {s : St} {r : Rw} (h : StOk k s) : StOk (k + 1) (stepR k s r) := by
  unfold stepR
  split
  · obtain ⟨a1, a2, a3⟩ := closeL_ok (p := r.p) (w := r.d) (k := k) (op := s.op) (c := r.c) h.pos
    have a4 : ∀ o ∈ (closeL r.p r.d k r.c s.op).2.2, o.k < k := fun o ho => by
      obtain ⟨q, hq, e⟩ := List.mem_map.mp (a2.subset (List.mem_map_of_mem (f := (·.k)) ho))
      have := h.lt q hq
      omega
    obtain ⟨b1, b2, b3⟩ := lay_ok (p := r.p) (c := (closeL r.p r.d k r.c s.op).2.1) a1 (h.nd.sublist a2) a4
    refine ⟨b1, b2, b3, fun c hc => ?_⟩
    rcases List.mem_append.mp hc with z | z
    · have := h.cl c z; omega
    · rw [a3 c z]; omega
  · obtain ⟨b1, b2, b3⟩ := lay_ok (p := r.p) (c := r.c) h.pos h.nd h.lt
    exact ⟨b1, b2, b3, fun c hc => by have := h.cl c hc; omega⟩
theorem flatO_lay {d : Bool} {p : Int} {c k : Nat} {op : List Op} : flatO d (lay p c k op) = flatO d op ++ List.replicate c ⟨p, d, k⟩ := by
  unfold lay
  split
  · simp [flatO]
  · have : c = 0 := by omega
    subst this
    simp
theorem flatO_d {d : Bool} {op : List Op} : ∀ e ∈ flatO d op, e.d = d := by
  intro e he
  simp only [flatO, List.mem_flatMap] at he
  obtain ⟨o, _, h⟩ := he
  rw [(List.mem_replicate.mp h).2]
theorem row_fold {k : Nat} {s : St} {r : Rw} (h : StOk k s) : (lotsOf r k).foldl lotStep (s.cl, flatO (!s.h) s.op) = ((stepR k s r).cl, flatO (!(stepR k s r).h) (stepR k s r).op) := by
  unfold stepR lotsOf
  by_cases hd : s.h = r.d
  · rw [if_pos hd, close_fold (by rw [hd]; cases r.d <;> decide) h.pos h.nd]
    · simp only
      by_cases hp : 0 < (closeL r.p r.d k r.c s.op).2.1
      · rw [if_pos hp, closeL_left hp]
        simp only [Bool.not_not]
        rw [flatO_lay]
        simp [flatO]
      · have e : (closeL r.p r.d k r.c s.op).2.1 = 0 := by omega
        rw [e, flatO_lay]
        simp
    · intro o ho z hz ⟨_, hk⟩
      have := h.cl z (List.mem_of_getLast? hz)
      omega
  · rw [if_neg hd]
    have hd' : (!s.h) = r.d := by cases h1 : s.h <;> cases h2 : r.d <;> simp_all
    rw [lay_fold]
    · simp only
      rw [flatO_lay]
      by_cases hp : 0 < r.c
      · rw [if_pos hp]
        simp [hd']
      · have e : r.c = 0 := by omega
        rw [e]
        simp
    · intro e he
      rw [flatO_d e he, hd']
theorem all_fold : ∀ {rs : List Rw} {k : Nat} {s : St}, StOk k s → (allLots k rs).foldl lotStep (s.cl, flatO (!s.h) s.op) = ((pcs k s rs).cl, flatO (!(pcs k s rs).h) (pcs k s rs).op) ∧ StOk (k + rs.length) (pcs k s rs)
  | [], k, s, h => ⟨rfl, h⟩
  | r :: rs, k, s, h => by
    rw [allLots, List.foldl_append, row_fold h, pcs, List.length_cons]
    have := all_fold (rs := rs) (h.step (r := r))
    have e : k + 1 + rs.length = k + (rs.length + 1) := by omega
    rw [e] at this
    exact this
end PC

end

section
set_option Elab.async false
set_option linter.all false
set_option maxRecDepth 100000
namespace VL
open PySem PySem.Spec PyProof.Rows L2
section
variable {ρ : Rho}
@[simp] theorem okM_nMv {i : Nat} {Q : Tr → Rho → Prop} : okM (nMv i ρ) Q ↔ okO (match ρ[i]? with
  | some (.own .free t) => some t
  | _ => none) fun t => Q t (ρ.set i (.own .free .hole)) := by
  unfold nMv
  cases h : ρ[i]? with
  | none => simp
  | some s =>
    cases s with
    | own m t => cases m <;> simp
    | _ => simp
noncomputable def flatAt (ρ : Rho) (r : Nat × List Nat) : Option (List PyData) := match treeAt ρ r with
  | some (.lst ts) => flat ts
  | _ => none
@[simp] theorem okM_cCutP {Ts : List Nat} {f : M (Nat × List Nat)} {fl fh : M (Option Int)} {Q : Rv → Rho → Prop} : okM (cCutP Ts f fl fh ρ) Q ↔ okM (f ρ) fun r ρ1 => okM (fl ρ1) fun lo ρ2 => okM (fh ρ2) fun hi ρ3 => Ts.contains r.1 = false ∧ okO (flatAt ρ3 r) fun ds => okO (cutD (.list ds) lo hi) fun z => Q (.d z) ρ3 := by
  unfold cCutP
  simp only [okM_bnd]
  have e : ∀ (r : Nat × List Nat) (lo hi : Option Int) (ρ3 : Rho), okM (cutP1 Ts r lo hi ρ3) Q ↔ Ts.contains r.1 = false ∧ okO (flatAt ρ3 r) fun ds => okO (cutD (.list ds) lo hi) fun z => Q (.d z) ρ3 := fun r lo hi ρ3 => by
    unfold cutP1 flatAt
    by_cases h : Ts.contains r.1 = true
    · rw [if_pos h, h]; simp
    · rw [if_neg h]
      have h' : Ts.contains r.1 = false := by simpa using h
      rw [h']
      simp only [true_and]
      cases hq : treeAt ρ3 r with
      | none => simp
      | some t =>
        cases t with
        | lst ts =>
          simp only
          cases q : flat ts with
          | none => simp
          | some ds =>
            simp only [okO_some]
            cases hz : cutD (.list ds) lo hi <;> simp
        | _ => simp
  simp only [e]
@[simp] theorem okM_cIsiP {B : BT} {f : M (Nat × List Nat)} {Q : Rv → Rho → Prop} : okM (cIsiP B f ρ) Q ↔ okM (f ρ) fun r ρ1 => okO ((treeAt ρ1 r).bind Tr.toD) fun d => okO (isiD B d) fun b => Q (.d (.bool b)) ρ1 := by
  unfold cIsiP
  rw [okM_bnd]
  refine okM_congr fun r ρ1 => ?_
  cases (treeAt ρ1 r).bind Tr.toD with
  | none => simp
  | some d => cases h : isiD B d <;> simp [h]
end
end VL

end

section
set_option Elab.async false
set_option linter.all false
set_option maxRecDepth 100000
namespace PC
open PySem PySem.Spec PyProof.Rows L2 VL SM
structure Dl where
  s : Int
  b : Int
  p : Int
  c : Nat
  m : Int
noncomputable def Dl.D (d : Dl) : PyData := .tuple [.int d.s, .int d.b, .int d.p, .int d.c, .int d.m]
structure DlOk (n : Nat) (d : Dl) : Prop where
  s0 : 0 ≤ d.s
  s1 : d.s < n
  b0 : 0 ≤ d.b
  b1 : d.b < n
  ne : d.s ≠ d.b
  p0 : 0 ≤ d.p
  p1 : d.p ≤ 1000000000
  c0 : 1 ≤ d.c
  c1 : d.c ≤ 1000000
noncomputable def bi (b : Bool) : Int := if b then 1 else 0
noncomputable def Rw.D (r : Rw) : PyData := .tuple [.int r.m, .int r.p, .int r.o, .int r.c, .int (bi r.d)]
structure RwOk (r : Rw) : Prop where
  p0 : 0 ≤ r.p
  p1 : r.p ≤ 1000000000
  c0 : 1 ≤ r.c
  c1 : r.c ≤ 1000000
noncomputable def rowsOf (i : Int) : List Dl → List Rw
  | [] => []
  | d :: ds => (if d.b = i then [⟨d.m, d.p, d.s, d.c, false⟩] else []) ++ ((if d.s = i then [⟨d.m, d.p, d.b, d.c, true⟩] else []) ++ rowsOf i ds)
theorem rowsOf_ok {i : Int} {n : Nat} : ∀ {ds : List Dl}, (∀ d ∈ ds, DlOk n d) → ∀ r ∈ rowsOf i ds, RwOk r
  | [], _, r, h => by simp [rowsOf] at h
  | d :: ds, hd, r, h => by
    have ok := hd d List.mem_cons_self
    rw [rowsOf] at h
    rcases List.mem_append.mp h with h | h
    · split at h
      · rw [List.mem_singleton.mp h]; exact ⟨ok.p0, ok.p1, ok.c0, ok.c1⟩
      · cases h
    · rcases List.mem_append.mp h with h | h
      · split at h
        · rw [List.mem_singleton.mp h]; exact ⟨ok.p0, ok.p1, ok.c0, ok.c1⟩
        · cases h
      · exact rowsOf_ok (fun e he => hd e (List.mem_cons_of_mem _ he)) r h
theorem rowsOf_snoc {i : Int} {d : Dl} : ∀ {ds : List Dl}, rowsOf i (ds ++ [d]) = rowsOf i ds ++ ((if d.b = i then [⟨d.m, d.p, d.s, d.c, false⟩] else []) ++ (if d.s = i then [⟨d.m, d.p, d.b, d.c, true⟩] else []))
  | [] => by simp [rowsOf]
  | e :: ds => by
    rw [List.cons_append, rowsOf, rowsOf_snoc, rowsOf]
    simp [List.append_assoc]
theorem rowsOf_len {i : Int} : ∀ {ds : List Dl}, (rowsOf i ds).length ≤ 2 * ds.length
  | [] => by simp [rowsOf]
  | d :: ds => by
    have := rowsOf_len (i := i) (ds := ds)
    rw [rowsOf, List.length_append, List.length_append, List.length_cons]
    split <;> split <;> simp <;> omega
noncomputable def Dl.by (b : Nat) (d : Dl) : Dl := ⟨d.s, d.b, d.p, d.c * b, d.m⟩
noncomputable def ky (r : Rw) : List Int := [r.m, r.p, r.o, r.c, bi r.d]
noncomputable def rle (a b : Rw) : Bool := PySem.W.dataLe false id a.D b.D
theorem rle_eq {a b : Rw} : rle a b = !decide (ky b < ky a) := by
  have e : ∀ r : Rw, r.D = .tuple ((ky r).map .int) := fun r => rfl
  have := PySem.W.dataLt_ints (ky b) (ky a)
  rw [← this]
  unfold rle
  rw [e a, e b]
  rfl
theorem ky_inj {a b : Rw} (h : ky a = ky b) : a = b := by
  obtain ⟨m, p, o, c, d⟩ := a
  obtain ⟨m', p', o', c', d'⟩ := b
  simp only [ky, List.cons.injEq, and_true] at h
  obtain ⟨h1, h2, h3, h4, h5⟩ := h
  have : c = c' := by omega
  have : d = d' := by cases d <;> cases d' <;> first | rfl | simp [bi] at h5
  simp_all
noncomputable def sortR (rs : List Rw) : List Rw := rs.mergeSort rle
theorem sortR_D {rs : List Rw} : sortL (rs.map Rw.D) = (sortR rs).map Rw.D := by
  unfold sortL sortR
  exact (List.map_mergeSort (r := rle) (s := PySem.W.dataLe false id) (f := Rw.D) (l := rs) (fun a _ b _ => rfl)).symm
theorem sortR_perm {rs : List Rw} : (sortR rs).Perm rs := List.mergeSort_perm _ _
theorem rle_trans {a b c : Rw} (h : rle a b = true) (h' : rle b c = true) : rle a c = true := by
  rw [rle_eq] at *
  simp only [Bool.not_eq_true', decide_eq_false_iff_not, List.not_lt] at *
  exact List.le_trans h h'
theorem rle_total {a b : Rw} : (rle a b || rle b a) = true := by
  rw [rle_eq, rle_eq, Bool.or_eq_true]
  simp only [Bool.not_eq_true', decide_eq_false_iff_not, List.not_lt]
  exact List.le_total _ _
theorem rle_anti {a b : Rw} (h : rle a b = true) (h' : rle b a = true) : a = b := by
  rw [rle_eq] at *
  simp only [Bool.not_eq_true', decide_eq_false_iff_not, List.not_lt] at *
  exact ky_inj (List.le_antisymm h h')
theorem sortR_pw {rs : List Rw} : (sortR rs).Pairwise fun a b => rle a b = true := List.pairwise_mergeSort (le := rle) (fun a b c => rle_trans) (fun a b => rle_total) rs
theorem rw_sortOk {rs : List Rw} : sortOk (rs.map Rw.D) = true := by
  unfold sortOk
  simp only [Bool.and_eq_true, Bool.or_eq_true, List.all_eq_true, List.mem_map]
  refine ⟨⟨⟨?_, .inl ?_⟩, ?_⟩, ?_⟩
  · rintro d ⟨r, _, rfl⟩ e ⟨q, _, rfl⟩
    simp [Rw.D, PySem.W.alike, PySem.W.alikeAll]
  · rintro d ⟨r, _, rfl⟩
    rfl
  · rintro d ⟨r, _, rfl⟩
    simp [Rw.D, PyData.depth, PyData.depthAll]
  · rintro d ⟨r, _, rfl⟩
    simp [Rw.D, PyData.canLay0, PyData.canLayAll0]
inductive JF (ds : List Dl) (i : Int) (rs : List Rw) : Rho → Prop where
  | mk {a b c d e : Sl} (ha : frB (some a) = true) (hb : frB (some b) = true) (hc : frB (some c) = true) (hd : frB (some d) = true) (he : frB (some e) = true) :
    JF ds i rs [.val (.list (ds.map Dl.D)), .val (.int i), .own .free (tr (rs.map Rw.D)), a, b, c, d, e]
theorem deals_of_ok {ds : List Dl} {i : Int} (hl : ds.length ≤ 1000) {Q : Tr → List Sl → Prop} (k : ∀ outs, Q (.dat (.list ((sortR (rowsOf i ds)).map Rw.D))) outs) : okF (F_deals_of [.val (.list (ds.map Dl.D)), .val (.int i)]) Q := by
  refine okF_run ?_
  simp only [entry, List.map_cons, List.map_nil, pinS_val]
  unfold g_deals_of
  rw [okS_seq]
  refine okS_setN ?_
  simp [List.replicate]
  rw [okS_seq]
  refine okS_for (fun j => JF ds i (rowsOf i (ds.take j))) (xs := ds.map Dl.D) ?_ ?_ ?_
  · simp
    exact ⟨rfl, rfl, rfl, rfl, rfl⟩
  · intro j x ρ hx hJ
    rw [List.getElem?_map] at hx
    obtain ⟨d, hdi, rfl⟩ := Option.map_eq_some_iff.mp hx
    have hil := (List.getElem?_eq_some_iff.mp hdi).1
    have etk : ds.take (j + 1) = ds.take j ++ [d] := by
      rw [List.take_succ, hdi]
      rfl
    rw [etk, rowsOf_snoc]
    have hln : (rowsOf i (ds.take j)).length ≤ 2 * (ds.take j).length := rowsOf_len
    have htl : (ds.take j).length ≤ 1000 := by rw [List.length_take]; omega
    generalize rowsOf i (ds.take j) = rs at hJ hln ⊢
    obtain ⟨s, b, p, c, m⟩ := d
    cases hJ with
    | mk h3 h4 h5 h6 h7 =>
      simp [Dl.D, h3, h4, h5, h6, h7]
      unfold b_deals_of_0
      have fin : ∀ zs : List Rw, zs.length ≤ 3000 → ∀ {P : Out → Prop}, (∀ ρ', JF ds i (zs ++ (if s = i then [⟨m, p, b, c, true⟩] else [])) ρ' → P (.nx ρ')) →
          okS (sIf (cCmp eqD (cVar 3) (cVar 1)) (sApp [] (pVar 2) (nDat (cTup (aCons (cVar 7) (aCons (cVar 5) (aCons (cVar 4) (aCons (cVar 6) (aCons (cD (.int 1)) aNil)))))))) sNil
            [.val (.list (ds.map Dl.D)), .val (.int i), .own .free (tr (zs.map Rw.D)), .val (.int s), .val (.int b), .val (.int p), .val (.int c), .val (.int m)]) P := fun zs hz P k => by
        refine okS_if ?_
        by_cases hs : s = i
        · simp [hs] at k ⊢
          refine app_ok (m := .free) (m' := .free) (xs := zs.map Rw.D) rfl rfl (by simp; omega) (by simp) ?_
          simp
          have e : zs.map Rw.D ++ [PyData.tuple [.int m, .int p, .int b, .int c, .int 1]] = (zs ++ [Rw.mk m p b c true]).map Rw.D := by simp [Rw.D, bi]
          rw [e]
          exact k _ ⟨rfl, rfl, rfl, rfl, rfl⟩
        · simp [hs] at k ⊢
          exact k _ ⟨rfl, rfl, rfl, rfl, rfl⟩
      rw [okS_seq]
      refine okS_if ?_
      by_cases hb : b = i
      · simp [hb]
        refine app_ok (m := .free) (m' := .free) (xs := rs.map Rw.D) rfl rfl (by simp; omega) (by simp) ?_
        simp
        have e : rs.map Rw.D ++ [PyData.tuple [.int m, .int p, .int s, .int c, .int 0]] = (rs ++ [Rw.mk m p s c false]).map Rw.D := by simp [Rw.D, bi]
        rw [e]
        subst hb
        refine fin (rs ++ [⟨m, p, s, c, false⟩]) (by simp; omega) fun ρ' h => ?_
        simpa using h
      · simp [hb]
        exact fin rs (by omega) fun ρ' h => h
  · intro ρ hJ
    rw [List.length_map, List.take_length] at hJ
    cases hJ with
    | mk h3 h4 h5 h6 h7 =>
      rw [nxt_nx]
      refine okS_ret ?_
      simp [tr, flat_dat, rw_sortOk, -List.map_map]
      rw [sortR_D]
      exact k _
end PC

end

section
set_option Elab.async false
set_option linter.all false
set_option maxRecDepth 100000
namespace PC
open PySem PySem.Spec PyProof.Rows L2 VL SM
noncomputable def Cl.D (c : Cl) : PyData := .tuple [.int c.e, .int c.p, .int c.n, .str (if c.w then s_had else s_owed)]
noncomputable def Op.D (c : Op) : PyData := .tuple [.int c.p, .int c.c]
theorem l_had : PyData.canLay0 (.str s_had) = true := by decide +kernel
theorem l_owed : PyData.canLay0 (.str s_owed) = true := by decide +kernel
theorem l_has : PyData.canLay0 (.str s_has) = true := by decide +kernel
theorem l_owes : PyData.canLay0 (.str s_owes) = true := by decide +kernel
theorem clSh {cl : List Cl} : Sh 2 (.list (cl.map Cl.D)) := .list fun x hx => by
  obtain ⟨d, _, rfl⟩ := List.mem_map.mp hx
  refine .tuple (n := 0) fun x hx => ?_
  simp at hx
  rcases hx with rfl | rfl | rfl | rfl
  · exact .int
  · exact .int
  · exact .int
  · exact .str (by cases d.w <;> decide +kernel)
theorem opSh {op : List Op} : Sh 2 (.list (op.map Op.D)) := .list fun x hx => by
  obtain ⟨d, _, rfl⟩ := List.mem_map.mp hx
  refine .tuple (n := 0) fun x hx => ?_
  simp at hx
  rcases hx with rfl | rfl <;> exact .int
theorem nilSh : SeqAt.shaped (.list []) = true := (Sh.list (n := 0) (xs := []) (fun x hx => nomatch hx)).ok
theorem eqv_nil (ys : List PyData) : PyData.eqv (.list ys) (.list []) = ys.isEmpty := by cases ys <;> simp [PyData.eqv, PyData.eqvAll]
theorem sIx1 {n : Nat} : HT.sIx (n + 1) 0 (some 1) = 1 := by
  simp [HT.sIx]
theorem cut_1 {xs : List PyData} {x : PyData} : cutL (x :: xs) (some 1) none = xs := by
  unfold cutL
  simp only [List.length_cons, sIx1]
  have e : HT.sIx (xs.length + 1) (xs.length + 1) none = xs.length + 1 := rfl
  rw [e]
  simp
inductive JW (ds : List Dl) (i : Int) (r : Rw) (c : Nat) (cl : List Cl) (op : List Op) (h : Bool) : Rho → Prop where
  | mk {x y z : Sl} (hx : frB (some x) = true) (hy : frB (some y) = true) (hz : frB (some z) = true) :
    JW ds i r c cl op h [.val (.list (ds.map Dl.D)), .val (.int i), .own .free (tr (cl.map Cl.D)), .own .free (tr (op.map Op.D)), .val (.int (bi h)), .val (.int r.m), .val (.int r.p), .val (.int r.o), .val (.int c), .val (.int (bi r.d)), .val (.str (if r.d then s_had else s_owed)), x, y, z]
structure Ic (k : Nat) (r : Rw) (s : St) (c : Nat) (cl : List Cl) (op : List Op) : Prop where
  a : cl ++ (closeL r.p r.d k c op).1 = s.cl ++ (closeL r.p r.d k r.c s.op).1
  b : (closeL r.p r.d k c op).2 = (closeL r.p r.d k r.c s.op).2
  len : cl.length + op.length + (if 0 < c then 1 else 0) ≤ s.cl.length + s.op.length + 1
  pos : ∀ o ∈ op, 0 < o.c
theorem Ic.turn {k : Nat} {r : Rw} {s : St} {c : Nat} {cl : List Cl} {o : Op} {op : List Op} (v : Ic k r s c cl (o :: op)) (hc : 0 < c) {n : Nat} (hn : n = if c < o.c then c else o.c) :
    Ic k r s (c - n) (cl ++ [⟨o.p, r.p, n, r.d, o.k, k⟩]) ((if n < o.c then [⟨o.p, o.c - n, o.k⟩] else []) ++ op) := by
  have ho := v.pos o List.mem_cons_self
  have a := v.a
  have b := v.b
  have l := v.len
  simp only [closeL] at a b
  rw [if_neg (by omega)] at a b
  rw [if_pos hc] at l
  simp only [List.length_cons] at l
  by_cases h1 : c < o.c
  · rw [if_pos h1] at a b hn
    subst hn
    have e : closeL r.p r.d k 0 (⟨o.p, o.c - n, o.k⟩ :: op) = ([], 0, ⟨o.p, o.c - n, o.k⟩ :: op) := by simp [closeL]
    rw [if_pos h1, Nat.sub_self, List.singleton_append]
    refine ⟨by rw [e]; simpa using a, by rw [e]; exact b, ?_, fun z hz => ?_⟩
    · simp; omega
    · rcases List.mem_cons.mp hz with q | q
      · rw [q]; show 0 < o.c - n; omega
      · exact v.pos z (List.mem_cons_of_mem _ q)
  · rw [if_neg h1] at a b hn
    subst hn
    rw [if_neg (by omega), List.nil_append]
    refine ⟨by simpa using a, b, ?_, fun z hz => v.pos z (List.mem_cons_of_mem _ hz)⟩
    simp
    split <;> omega
theorem while_ok {ds : List Dl} {i : Int} {r : Rw} {k : Nat} {s : St} (hl : s.cl.length + s.op.length ≤ 3000) (hp : ∀ o ∈ s.op, 0 < o.c) {ρ : Rho} (hJ : JW ds i r r.c s.cl s.op s.h ρ) {P : Out → Prop}
    (kk : ∀ ρ' c cl' op', JW ds i r c cl' op' s.h ρ' → (s.h = r.d → cl' = s.cl ++ (closeL r.p r.d k r.c s.op).1 ∧ c = (closeL r.p r.d k r.c s.op).2.1 ∧ op' = (closeL r.p r.d k r.c s.op).2.2) → (s.h ≠ r.d → c = r.c ∧ cl' = s.cl ∧ op' = s.op) → cl'.length + op'.length + (if 0 < c then 1 else 0) ≤ s.cl.length + s.op.length + 1 → P (.nx ρ')) :
    okS (sWhile fuel (cAnd (cCmp gtD (cVar 8) (cD (.int 0))) (cAnd (cCmp neD (cVar 3) (cFrz (nLst aNil))) (cCmp eqD (cVar 4) (cVar 9)))) b_pieces_0 ρ) P := by
  refine okS_while (fun m ρ => ∃ c cl op, Ic k r s c cl op ∧ JW ds i r c cl op s.h ρ ∧ op.length + (if 0 < c then 1 else 0) ≤ m ∧ (s.h ≠ r.d → c = r.c ∧ cl = s.cl ∧ op = s.op)) 4000 (by unfold fuel; omega)
    ⟨r.c, s.cl, s.op, ⟨rfl, rfl, by split <;> omega, hp⟩, hJ, by split <;> omega, fun _ => ⟨rfl, rfl, rfl⟩⟩ ?_
  rintro m ρ ⟨c, cl, op, v, hJ, hm, hne⟩
  have k' := fun (q : closeL r.p r.d k c op = ([], c, op)) => kk ρ c cl op hJ (fun _ => by
    have a := v.a
    have b := v.b
    rw [q] at a b
    rw [← b]
    exact ⟨by simpa using a, rfl, rfl⟩) hne v.len
  have k2 := fun (q : s.h ≠ r.d) => kk ρ c cl op hJ (fun z => absurd z q) hne v.len
  have vl := v.len
  cases hJ with
  | mk hx hy hz =>
    by_cases hc : 0 < c
    · cases op with
      | nil =>
        simp [hc, nilSh, eqv_nil]
        exact k' rfl
      | cons o op =>
        have opS : SeqAt.shaped (.list (o.D :: op.map Op.D)) = true := (opSh (op := o :: op)).ok
        by_cases hd : s.h = r.d
        · rw [hd] at k' ⊢
          simp [hc, nilSh, eqv_nil, opS]
          obtain ⟨k1, rfl⟩ : ∃ k1, m = k1 + 1 := ⟨m - 1, by simp [hc] at hm; omega⟩
          refine ⟨k1, rfl, ?_⟩
          have v' := v.turn hc (n := if c < o.c then c else o.c) rfl
          have hln := v'.len
          have ho := v.pos o List.mem_cons_self
          unfold b_pieces_0
          rw [okS_seq]
          refine okS_asg ?_
          simp [hx, hy, Op.D]
          rw [okS_seq]
          refine okS_set ?_
          simp [hz]
          have en : (if c < o.c then (c : Int) else (o.c : Int)) = ((if c < o.c then c else o.c : Nat) : Int) := by split <;> rfl
          rw [en]
          have hn1 : (if c < o.c then c else o.c) ≤ c := by split <;> omega
          have hn2 : (if c < o.c then c else o.c) ≤ o.c := by split <;> omega
          have hn3 : 0 < (if c < o.c then c else o.c) := by split <;> omega
          have hn4 : ¬ (if c < o.c then c else o.c) < o.c ∨ c - (if c < o.c then c else o.c) = 0 := by split <;> omega
          generalize (if c < o.c then c else o.c) = n at v' hln hn1 hn2 hn3 hn4 ⊢
          rw [okS_seq]
          simp at vl
          refine app_ok (m := .free) (m' := .free) (xs := cl.map Cl.D) rfl rfl (by simp; omega) (by simp) ?_
          simp
          rw [okS_seq]
          refine okS_aug (a := c) (.inl rfl) ?_
          simp
          refine okS_setN ?_
          simp
          have es : (o.c : Int) - (n : Int) = ((o.c - n : Nat) : Int) := by omega
          have es2 : (c : Int) - (n : Int) = ((c - n : Nat) : Int) := by omega
          rw [es, es2]
          have rep : repOk [PyData.tuple [.int o.p, .int ((o.c - n : Nat) : Int)]] (if n < o.c then 1 else 0) = true ∧ repL [PyData.tuple [.int o.p, .int ((o.c - n : Nat) : Int)]] (if n < o.c then 1 else 0) = (if n < o.c then [Op.mk o.p (o.c - n) o.k] else []).map Op.D := by
            split
            · exact ⟨by unfold repOk; simp [small_of], rfl⟩
            · exact ⟨by unfold repOk; simp [small_of], rfl⟩
          refine ⟨rep.1, ?_⟩
          rw [rep.2, cut_1]
          refine okM_cat1 rfl rfl (by simp at hln ⊢; omega) ?_
          have e1 : cl.map Cl.D ++ [PyData.tuple [.int o.p, .int r.p, .int n, .str (if r.d = true then s_had else s_owed)]] = (cl ++ [Cl.mk o.p r.p n r.d o.k k]).map Cl.D := by simp [Cl.D]
          refine ⟨rfl, c - n, cl ++ [⟨o.p, r.p, n, r.d, o.k, k⟩], (if n < o.c then [⟨o.p, o.c - n, o.k⟩] else []) ++ op, v', ?_, ?_⟩
          · rw [e1, ← List.map_append]
            exact ⟨rfl, rfl, rfl⟩
          · simp [hc] at hm
            simp only [List.length_append]
            split <;> split <;> simp <;> omega
        · have hb : ¬ bi s.h = bi r.d := by cases h1 : s.h <;> cases hr : r.d <;> simp_all [bi]
          simp [hc, nilSh, eqv_nil, opS, hb]
          exact k2 hd
    · simp [hc]
      refine k' ?_
      have e : c = 0 := by omega
      subst e
      cases op <;> simp [closeL]
inductive JP (ds : List Dl) (i : Int) (s : St) : Rho → Prop where
  | mk {a b c d e f x y z : Sl} (ha : frB (some a) = true) (hb : frB (some b) = true) (hc : frB (some c) = true) (hd : frB (some d) = true) (he : frB (some e) = true) (hf : frB (some f) = true) (hx : frB (some x) = true) (hy : frB (some y) = true) (hz : frB (some z) = true) :
    JP ds i s [.val (.list (ds.map Dl.D)), .val (.int i), .own .free (tr (s.cl.map Cl.D)), .own .free (tr (s.op.map Op.D)), .val (.int (bi s.h)), a, b, c, d, e, f, x, y, z]
noncomputable def wdS (s : St) : Str := match s.op with | [] => s_nothing | _ => if s.h then s_has else s_owes
noncomputable def toldT (s : St) : Tr := .tup [tr (s.cl.map Cl.D), .tup [.dat (.str (wdS s)), tr (s.op.map Op.D)]]
noncomputable def told (s : St) : PyData := .tuple [.list (s.cl.map Cl.D), .tuple [.str (wdS s), .list (s.op.map Op.D)]]
structure StOk2 (k : Nat) (s : St) : Prop where
  pos : ∀ o ∈ s.op, 0 < o.c
  len : s.cl.length + s.op.length ≤ k
theorem pieces_ok {n : Nat} {ds : List Dl} {i : Int} (hl : ds.length ≤ 1000) (hd : ∀ d ∈ ds, DlOk n d) {Q : Tr → List Sl → Prop} (k : ∀ outs, StOk2 2000 (pcs 0 st0 (sortR (rowsOf i ds))) → Q (toldT (pcs 0 st0 (sortR (rowsOf i ds)))) outs) : okF (F_pieces [.val (.list (ds.map Dl.D)), .val (.int i)]) Q := by
  refine okF_run ?_
  simp only [entry, List.map_cons, List.map_nil, pinS_val]
  unfold g_pieces
  rw [okS_seq]
  refine okS_setN ?_
  simp [List.replicate]
  rw [okS_seq]
  refine okS_setN ?_
  simp
  rw [okS_seq]
  refine okS_set ?_
  simp
  rw [okS_seq]
  refine okS_E' ?_
  simp [-okM_callN]
  refine okM_pure2 (deals_of_ok hl fun outs => ?_)
  simp
  have hp : (sortR (rowsOf i ds)).Perm (rowsOf i ds) := sortR_perm
  generalize sortR (rowsOf i ds) = rs at hp k ⊢
  have rok : ∀ r ∈ rs, RwOk r := fun r hr => rowsOf_ok hd r (hp.subset hr)
  have rl : rs.length ≤ 2000 := by have := rowsOf_len (i := i) (ds := ds); rw [hp.length_eq]; omega
  refine okS_loop _ (fun j ρ => JP ds i (pcs 0 st0 (rs.take j)) ρ ∧ StOk2 j (pcs 0 st0 (rs.take j))) _ ?_ ?_ ?_
  · exact ⟨⟨rfl, rfl, rfl, rfl, rfl, rfl, rfl, rfl, rfl⟩, ⟨(fun o ho => nomatch ho), by simp [pcs, st0]⟩⟩
  · rintro j x ρ hx ⟨hJ, v⟩
    rw [List.getElem?_map] at hx
    obtain ⟨r, hri, rfl⟩ := Option.map_eq_some_iff.mp hx
    have hil := (List.getElem?_eq_some_iff.mp hri).1
    have ok := rok r (List.mem_of_getElem? hri)
    have etk : rs.take (j + 1) = rs.take j ++ [r] := by
      rw [List.take_succ, hri]
      rfl
    have htl : (rs.take j).length = j := by rw [List.length_take]; omega
    rw [etk, pcs_snoc, htl, Nat.zero_add]
    generalize pcs 0 st0 (rs.take j) = s at v hJ ⊢
    have vlen := v.len
    cases hJ with
    | mk h5 h6 h7 h8 h9 h10 h11 h12 h13 =>
      simp [Rw.D, h5, h6, h7, h8, h9]
      unfold b_pieces_1
      rw [okS_seq]
      refine okS_set ?_
      have ew : atI [PyData.str s_owed, PyData.str s_had] (bi r.d) = some (.str (if r.d then s_had else s_owed)) := by cases r.d <;> rfl
      simp [ew, h10]
      rw [okS_seq]
      refine while_ok (k := j) (by omega) v.pos ⟨h11, h12, h13⟩ fun ρ' c cl' op' hJ' he hne hlen => ?_
      rw [nxt_nx]
      have cok := (closeL_ok (p := r.p) (w := r.d) (k := j) (op := s.op) (c := r.c) v.pos).1
      have opos : ∀ o ∈ op', 0 < o.c := by
        by_cases hh : s.h = r.d
        · rw [(he hh).2.2]; exact cok
        · rw [(hne hh).2.2]; exact v.pos
      have stp : stepR j s r = ⟨cl', lay r.p c j op', if 0 < c then !r.d else s.h⟩ := by
        unfold stepR
        by_cases hh : s.h = r.d
        · obtain ⟨e1, e2, e3⟩ := he hh
          rw [if_pos hh, e1, e2, e3]
        · obtain ⟨e1, e2, e3⟩ := hne hh
          rw [if_neg hh, e1, e2, e3]
      have hst : StOk2 (j + 1) (stepR j s r) := by
        rw [stp]
        unfold lay
        refine ⟨fun o ho => ?_, ?_⟩
        · simp only at ho
          split at ho
          · rename_i hc
            rcases List.mem_append.mp ho with q | q
            · exact opos o q
            · rw [List.mem_singleton.mp q]; exact hc
          · exact opos o ho
        · simp only
          split at hlen <;> split <;> (try simp) <;> omega
      rw [stp] at hst ⊢
      cases hJ' with
      | mk hx hy hz =>
        refine okS_if ?_
        by_cases hc : 0 < c
        · simp [hc]
          rw [okS_seq]
          refine okS_set ?_
          simp
          have eb : 1 - bi r.d = bi (!r.d) := by cases r.d <;> rfl
          rw [eb]
          have hlc := hlen
          rw [if_pos hc] at hlc
          refine app_ok (m := .free) (m' := .free) (xs := op'.map Op.D) rfl rfl (by simp; omega) (by simp) ?_
          simp [-Bool.exists_bool]
          have e : op'.map Op.D ++ [PyData.tuple [.int r.p, .int c]] = (op' ++ [Op.mk r.p c j]).map Op.D := by simp [Op.D]
          rw [e]
          have el : lay r.p c j op' = op' ++ [⟨r.p, c, j⟩] := by unfold lay; rw [if_pos hc]
          rw [el, if_pos hc] at hst
          rw [el]
          exact ⟨⟨rfl, rfl, rfl, rfl, rfl, rfl, hx, hy, hz⟩, hst⟩
        · simp [hc, -Bool.exists_bool]
          have el : lay r.p c j op' = op' := by unfold lay; rw [if_neg hc]
          rw [el, if_neg hc] at hst
          rw [el]
          exact ⟨⟨rfl, rfl, rfl, rfl, rfl, rfl, hx, hy, hz⟩, hst⟩
  · rintro ρ ⟨hJ, v⟩
    rw [List.length_map, List.take_length] at v hJ
    have k' := fun outs => k outs ⟨v.pos, by have := v.len; omega⟩
    unfold toldT wdS at k'
    generalize pcs 0 st0 rs = s at v hJ k'
    obtain ⟨cl, op, h⟩ := s
    cases hJ with
    | mk h5 h6 h7 h8 h9 h10 h11 h12 h13 =>
      rw [nxt_nx, okS_seq]
      refine okS_if ?_
      simp [opSh.ok, nilSh, eqv_nil]
      cases op with
      | nil =>
        simp
        refine okS_ret ?_
        simp
        exact k' _
      | cons o op =>
        simp
        refine okS_ret ?_
        have ew : atI [PyData.str s_owes, PyData.str s_has] (bi h) = some (.str (if h then s_has else s_owes)) := by cases h <;> rfl
        simp [ew]
        exact k' _
end PC

end

section
set_option Elab.async false
set_option linter.all false
set_option maxRecDepth 100000
set_option maxHeartbeats 1000000
namespace PC
open PySem PySem.Spec PyProof.Rows L2 VL SM
noncomputable def sg2 (b : Bool) : Int := if b then 1 else -1
noncomputable def wr (x : Int) (r : Rw) : Int := (x - r.p) * (r.c : Int) * (-(sg2 r.d))
noncomputable def lr (r : Rw) : Int := (r.c : Int) * (-(sg2 r.d))
noncomputable def wc (c : Cl) : Int := (c.p - c.e) * (c.n : Int) * sg2 c.w
noncomputable def wo (x : Int) (h : Bool) (o : Op) : Int := (x - o.p) * (o.c : Int) * sg2 h
noncomputable def wC (cl : List Cl) : Int := (cl.map wc).sum
noncomputable def wO (x : Int) (h : Bool) (op : List Op) : Int := (op.map (wo x h)).sum
noncomputable def nO (op : List Op) : Int := (op.map fun o => (o.c : Int)).sum
theorem sumI_app (xs ys : List Int) : (xs ++ ys).sum = xs.sum + ys.sum := by
  induction xs with
  | nil => simp
  | cons x xs ih => rw [List.cons_append, List.sum_cons, ih, List.sum_cons, Int.add_assoc]
theorem wC_app {a b : List Cl} : wC (a ++ b) = wC a + wC b := by unfold wC; rw [List.map_append, sumI_app]
theorem wO_app {x : Int} {h : Bool} {a b : List Op} : wO x h (a ++ b) = wO x h a + wO x h b := by unfold wO; rw [List.map_append, sumI_app]
theorem nO_app {a b : List Op} : nO (a ++ b) = nO a + nO b := by unfold nO; rw [List.map_append, sumI_app]
theorem wC_cons {c : Cl} {a : List Cl} : wC (c :: a) = wc c + wC a := by unfold wC; rw [List.map_cons, List.sum_cons]
theorem wO_cons {x : Int} {h : Bool} {o : Op} {a : List Op} : wO x h (o :: a) = wo x h o + wO x h a := by unfold wO; rw [List.map_cons, List.sum_cons]
theorem nO_cons {o : Op} {a : List Op} : nO (o :: a) = (o.c : Int) + nO a := by unfold nO; rw [List.map_cons, List.sum_cons]
theorem closeL_val {x p : Int} {w : Bool} {k : Nat} : ∀ {op : List Op} {c : Nat}, wC (closeL p w k c op).1 + wO x w (closeL p w k c op).2.2 + (x - p) * ((closeL p w k c op).2.1 : Int) * (-(sg2 w)) = wO x w op + (x - p) * (c : Int) * (-(sg2 w)) ∧
    nO (closeL p w k c op).2.2 - ((closeL p w k c op).2.1 : Int) = nO op - (c : Int)
  | [], c => by simp [closeL, wC, wO]
  | o :: op, c => by
    have ih := closeL_val (x := x) (p := p) (w := w) (k := k) (op := op) (c := c - o.c)
    unfold closeL
    by_cases h0 : c = 0
    · rw [if_pos h0]
      subst h0
      simp [wC]
    · rw [if_neg h0]
      by_cases h1 : c < o.c
      · rw [if_pos h1]
        have e : ((o.c - c : Nat) : Int) = (o.c : Int) - c := by omega
        simp only [wC_cons, wO_cons, nO_cons]
        refine ⟨?_, by simp only [e]; omega⟩
        unfold wc wo
        simp only [e]
        have z : wC [] = 0 := rfl
        rw [z]
        show (p - o.p) * (c : Int) * sg2 w + 0 + ((x - o.p) * ((o.c : Int) - c) * sg2 w + wO x w op) + (x - p) * ((0 : Nat) : Int) * -sg2 w = _
        grind
      · rw [if_neg h1]
        have e : ((c - o.c : Nat) : Int) = (c : Int) - o.c := by omega
        obtain ⟨i1, i2⟩ := ih
        rw [e] at i1 i2
        simp only [wC_cons, wO_cons, nO_cons]
        refine ⟨?_, by omega⟩
        unfold wc wo
        show (p - o.p) * (o.c : Int) * sg2 w + _ + _ + _ = _
        grind
theorem closeL_end {p : Int} {w : Bool} {k : Nat} : ∀ {op : List Op} {c : Nat}, 0 < (closeL p w k c op).2.1 → (closeL p w k c op).2.2 = []
  | [], c, _ => by simp [closeL]
  | o :: op, c, h => by
    unfold closeL at h ⊢
    by_cases h0 : c = 0
    · rw [if_pos h0] at h
      exact absurd h (Nat.lt_irrefl 0)
    · rw [if_neg h0] at h ⊢
      by_cases h1 : c < o.c
      · rw [if_pos h1] at h
        exact absurd h (Nat.lt_irrefl 0)
      · rw [if_neg h1] at h ⊢
        exact closeL_end (op := op) (c := c - o.c) h
theorem sg_not {b : Bool} : sg2 (!b) = -(sg2 b) := by cases b <;> rfl
noncomputable def val (x : Int) (s : St) : Int := wC s.cl + wO x s.h s.op
noncomputable def num (s : St) : Int := nO s.op * sg2 s.h
theorem wO_nil {x : Int} {h : Bool} : wO x h [] = 0 := rfl
theorem nO_nil : nO [] = 0 := rfl
theorem stepR_val {x : Int} {k : Nat} {s : St} {r : Rw} : val x (stepR k s r) = val x s + wr x r ∧ num (stepR k s r) = num s + lr r := by
  unfold stepR
  by_cases hh : s.h = r.d
  · rw [if_pos hh]
    obtain ⟨i1, i2⟩ := closeL_val (x := x) (p := r.p) (w := r.d) (k := k) (op := s.op) (c := r.c)
    have i3 := closeL_end (p := r.p) (w := r.d) (k := k) (op := s.op) (c := r.c)
    generalize closeL r.p r.d k r.c s.op = q at i1 i2 i3
    obtain ⟨cls, c', op'⟩ := q
    simp only at i1 i2 i3
    unfold val num wr lr
    simp only
    rw [wC_app, hh]
    by_cases hc : 0 < c'
    · rw [i3 hc] at i1 i2 ⊢
      unfold lay
      rw [if_pos hc, if_pos hc, List.nil_append, wO_cons, nO_cons, sg_not, wO_nil, nO_nil]
      unfold wo
      rw [sg_not]
      rw [wO_nil] at i1
      rw [nO_nil] at i2
      simp only
      refine ⟨by grind, by grind⟩
    · have z : c' = 0 := by omega
      subst z
      unfold lay
      rw [if_neg hc, if_neg hc]
      refine ⟨by grind, by grind⟩
  · rw [if_neg hh]
    have h2 : s.h = !r.d := by cases h : s.h <;> cases h' : r.d <;> simp [h, h'] at hh ⊢
    unfold val num wr lr
    simp only
    by_cases hc : 0 < r.c
    · unfold lay
      rw [if_pos hc, if_pos hc, wO_app, wO_cons, wO_nil, nO_app, nO_cons, nO_nil, h2, sg_not]
      unfold wo
      rw [sg_not]
      simp only
      refine ⟨by grind, by grind⟩
    · have z : r.c = 0 := by omega
      unfold lay
      rw [if_neg hc, if_neg hc, z]
      refine ⟨by simp, by simp⟩
noncomputable def sumW (x : Int) (rs : List Rw) : Int := (rs.map (wr x)).sum
noncomputable def sumL (rs : List Rw) : Int := (rs.map lr).sum
theorem pcs_val {x : Int} : ∀ {rs : List Rw} {k : Nat} {s : St}, val x (pcs k s rs) = val x s + sumW x rs ∧ num (pcs k s rs) = num s + sumL rs
  | [], k, s => by
    unfold pcs sumW sumL
    simp
  | r :: rs, k, s => by
    obtain ⟨i1, i2⟩ := pcs_val (x := x) (rs := rs) (k := k + 1) (s := stepR k s r)
    obtain ⟨j1, j2⟩ := stepR_val (x := x) (k := k) (s := s) (r := r)
    unfold pcs
    rw [i1, i2, j1, j2]
    unfold sumW sumL
    rw [List.map_cons, List.sum_cons, List.map_cons, List.sum_cons]
    exact ⟨by omega, by omega⟩
theorem pcs0_val {x : Int} {rs : List Rw} : val x (pcs 0 st0 rs) = sumW x rs ∧ num (pcs 0 st0 rs) = sumL rs := by
  obtain ⟨i1, i2⟩ := pcs_val (x := x) (rs := rs) (k := 0) (s := st0)
  rw [i1, i2]
  have a : val x st0 = 0 := rfl
  have b : num st0 = 0 := rfl
  rw [a, b, Int.zero_add, Int.zero_add]
  exact ⟨rfl, rfl⟩
noncomputable def cL (i : Int) (d : Dl) : Int := (if d.b = i then (d.c : Int) else 0) - (if d.s = i then (d.c : Int) else 0)
noncomputable def cC (i : Int) (d : Dl) : Int := (if d.s = i then d.p * d.c else 0) - (if d.b = i then d.p * d.c else 0)
noncomputable def lots (ds : List Dl) (i : Int) : Int := (ds.map (cL i)).sum
noncomputable def coins (ds : List Dl) (i : Int) : Int := (ds.map (cC i)).sum
theorem sumW_app {x : Int} {a b : List Rw} : sumW x (a ++ b) = sumW x a + sumW x b := by unfold sumW; rw [List.map_append, sumI_app]
theorem sumL_app {a b : List Rw} : sumL (a ++ b) = sumL a + sumL b := by unfold sumL; rw [List.map_append, sumI_app]
theorem sumW_rows {x i : Int} : ∀ {ds : List Dl}, sumW x (rowsOf i ds) = coins ds i + x * lots ds i
  | [] => by simp [rowsOf, sumW, coins, lots]
  | d :: ds => by
    have ih := sumW_rows (x := x) (i := i) (ds := ds)
    rw [rowsOf, sumW_app, sumW_app, ih]
    unfold coins lots
    rw [List.map_cons, List.sum_cons, List.map_cons, List.sum_cons]
    unfold cC cL
    by_cases h1 : d.b = i <;> by_cases h2 : d.s = i <;> simp only [h1, h2, if_true, if_false] <;> simp [sumW, wr, sg2] <;> grind
theorem sumL_rows {i : Int} : ∀ {ds : List Dl}, sumL (rowsOf i ds) = lots ds i
  | [] => by simp [rowsOf, sumL, lots]
  | d :: ds => by
    have ih := sumL_rows (i := i) (ds := ds)
    rw [rowsOf, sumL_app, sumL_app, ih]
    unfold lots
    rw [List.map_cons, List.sum_cons]
    unfold cL
    by_cases h1 : d.b = i <;> by_cases h2 : d.s = i <;> simp only [h1, h2, if_true, if_false] <;> simp [sumL, lr, sg2] <;> omega
theorem sum_permR {f : Rw → Int} {xs ys : List Rw} (h : xs.Perm ys) : (xs.map f).sum = (ys.map f).sum := by
  induction h with
  | nil => rfl
  | cons a _ ih => rw [List.map_cons, List.sum_cons, List.map_cons, List.sum_cons, ih]
  | swap a b l => simp only [List.map_cons, List.sum_cons]; omega
  | trans _ _ i1 i2 => exact i1.trans i2
theorem pcs_of {x i : Int} {ds : List Dl} : val x (pcs 0 st0 (sortR (rowsOf i ds))) = coins ds i + x * lots ds i ∧ num (pcs 0 st0 (sortR (rowsOf i ds))) = lots ds i := by
  obtain ⟨a, b⟩ := pcs0_val (x := x) (rs := sortR (rowsOf i ds))
  rw [a, b, ← sumW_rows, ← sumL_rows]
  exact ⟨sum_permR sortR_perm, sum_permR sortR_perm⟩
structure ClB (c : Cl) : Prop where
  e0 : 0 ≤ c.e
  e1 : c.e ≤ 1000000000
  p0 : 0 ≤ c.p
  p1 : c.p ≤ 1000000000
  n1 : c.n ≤ 1000000
structure OpB (o : Op) : Prop where
  p0 : 0 ≤ o.p
  p1 : o.p ≤ 1000000000
  c1 : o.c ≤ 1000000
theorem closeL_b {p : Int} {w : Bool} {k : Nat} (p0 : 0 ≤ p) (p1 : p ≤ 1000000000) : ∀ {op : List Op} {c : Nat}, (∀ o ∈ op, OpB o) → c ≤ 1000000 → (∀ z ∈ (closeL p w k c op).1, ClB z) ∧ (closeL p w k c op).2.1 ≤ 1000000 ∧ ∀ o ∈ (closeL p w k c op).2.2, OpB o
  | [], c, _, hc => ⟨(fun _ h => nomatch h), hc, (fun _ h => nomatch h)⟩
  | o :: op, c, ho, hc => by
    have o1 := ho o List.mem_cons_self
    have ho' : ∀ q ∈ op, OpB q := fun q hq => ho q (List.mem_cons_of_mem _ hq)
    obtain ⟨i1, i2, i3⟩ := closeL_b (w := w) (k := k) p0 p1 (op := op) (c := c - o.c) ho' (by omega)
    unfold closeL
    by_cases h0 : c = 0
    · rw [if_pos h0]
      exact ⟨(fun _ h => nomatch h), Nat.zero_le _, ho⟩
    · rw [if_neg h0]
      by_cases h1 : c < o.c
      · rw [if_pos h1]
        refine ⟨fun z hz => ?_, Nat.zero_le _, fun q hq => ?_⟩
        · rw [List.mem_singleton.mp hz]; exact ⟨o1.p0, o1.p1, p0, p1, hc⟩
        · rcases List.mem_cons.mp hq with e | e
          · rw [e]
            have := o1.c1
            exact ⟨o1.p0, o1.p1, by show o.c - c ≤ _; omega⟩
          · exact ho' q e
      · rw [if_neg h1]
        refine ⟨fun z hz => ?_, i2, i3⟩
        rcases List.mem_cons.mp hz with e | e
        · rw [e]; exact ⟨o1.p0, o1.p1, p0, p1, o1.c1⟩
        · exact i1 z e
structure StB (s : St) : Prop where
  cl : ∀ c ∈ s.cl, ClB c
  op : ∀ o ∈ s.op, OpB o
theorem lay_b {p : Int} {c k : Nat} {op : List Op} (p0 : 0 ≤ p) (p1 : p ≤ 1000000000) (hc : c ≤ 1000000) (h : ∀ o ∈ op, OpB o) : ∀ o ∈ lay p c k op, OpB o := by
  unfold lay
  split
  · intro o ho
    rcases List.mem_append.mp ho with e | e
    · exact h o e
    · rw [List.mem_singleton.mp e]; exact ⟨p0, p1, hc⟩
  · exact h
theorem stepR_b {k : Nat} {s : St} {r : Rw} (h : StB s) (ok : RwOk r) : StB (stepR k s r) := by
  unfold stepR
  split
  · obtain ⟨i1, i2, i3⟩ := closeL_b (w := r.d) (k := k) ok.p0 ok.p1 h.op ok.c1
    refine ⟨fun c hc => ?_, lay_b ok.p0 ok.p1 i2 i3⟩
    rcases List.mem_append.mp hc with e | e
    · exact h.cl c e
    · exact i1 c e
  · exact ⟨h.cl, lay_b ok.p0 ok.p1 ok.c1 h.op⟩
theorem pcs_b : ∀ {rs : List Rw} {k : Nat} {s : St}, StB s → (∀ r ∈ rs, RwOk r) → StB (pcs k s rs)
  | [], _, _, h, _ => h
  | r :: rs, k, s, h, ok => by
    unfold pcs
    exact pcs_b (stepR_b h (ok r List.mem_cons_self)) fun q hq => ok q (List.mem_cons_of_mem _ hq)
theorem st0_b : StB st0 := ⟨fun _ h => (nomatch h), fun _ h => (nomatch h)⟩
end PC

end

section
set_option Elab.async false
set_option linter.all false
set_option maxRecDepth 100000
set_option maxHeartbeats 1000000
namespace PC
open PySem PySem.Spec PyProof.Rows L2 VL SM
theorem lmn : 0 < lim ∧ 1 < lim ∧ 2 < lim ∧ 77 < lim := by decide +kernel
theorem ne_hw : ¬ s_had = s_owed ∧ ¬ s_owed = s_had ∧ ¬ s_has = s_owes ∧ ¬ s_owes = s_has ∧ ¬ s_nothing = s_owes := by decide +kernel
theorem mul_bd {a b : Int} (ha : a.natAbs ≤ 2000000000) (hb : b.natAbs ≤ 2000000000) : (a * b).natAbs < lim := by
  have h1 : (a * b).natAbs ≤ 2000000000 * 2000000000 := by rw [Int.natAbs_mul]; exact Nat.mul_le_mul ha hb
  have e : 4000000000000000000 < lim := by decide +kernel
  omega
theorem toldT_D {s : St} : Tr.toD (toldT s) = some (told s) := by
  unfold toldT told
  show (Tr.toDs [tr (s.cl.map Cl.D), .tup [.dat (.str (wdS s)), tr (s.op.map Op.D)]]).map PyData.tuple = _
  have a : Tr.toD (tr (s.cl.map Cl.D)) = some (.list (s.cl.map Cl.D)) := by
    show (Tr.toDs ((s.cl.map Cl.D).map .dat)).map PyData.list = _
    rw [toDs_dat]; rfl
  have b : Tr.toD (tr (s.op.map Op.D)) = some (.list (s.op.map Op.D)) := by
    show (Tr.toDs ((s.op.map Op.D).map .dat)).map PyData.list = _
    rw [toDs_dat]; rfl
  have c : Tr.toD (.tup [.dat (.str (wdS s)), tr (s.op.map Op.D)]) = some (.tuple [.str (wdS s), .list (s.op.map Op.D)]) := by
    show (Tr.toDs [.dat (.str (wdS s)), tr (s.op.map Op.D)]).map PyData.tuple = _
    simp only [Tr.toDs, Tr.toD, b]
    rfl
  simp only [Tr.toDs, a, c]
  rfl
inductive JG (ds : List Dl) (i x : Int) (s : St) (t : Int) : Rho → Prop where
  | mk {a b c d : Sl} (ha : frB (some a) = true) (hb : frB (some b) = true) (hc : frB (some c) = true) (hd : frB (some d) = true) :
    JG ds i x s t [.val (.list (ds.map Dl.D)), .val (.int i), .val (.int x), .val (.list (s.cl.map Cl.D)), .val (.tuple [.str (wdS s), .list (s.op.map Op.D)]), .val (.int t), a, b, c, d]
theorem gain_ok {n : Nat} {ds : List Dl} {i x : Int} (hl : ds.length ≤ 1000) (hd : ∀ d ∈ ds, DlOk n d) (x0 : 0 ≤ x) (x1 : x ≤ 1000000000) {Q : Tr → List Sl → Prop} (k : ∀ outs, Q (.dat (.int (coins ds i + x * lots ds i))) outs) : okF (F_gain [.val (.list (ds.map Dl.D)), .val (.int i), .val (.int x)]) Q := by
  refine okF_run ?_
  simp only [entry, List.map_cons, List.map_nil, pinS_val]
  unfold g_gain
  rw [okS_seq]
  refine okS_asg ?_
  simp [-okM_callN, List.replicate]
  refine okM_pure2 (pieces_ok (n := n) hl hd fun outs v => ?_)
  have tot := (pcs_of (x := x) (i := i) (ds := ds)).1
  have bd := pcs_b (rs := sortR (rowsOf i ds)) (k := 0) st0_b (fun r hr => rowsOf_ok hd r ((sortR_perm).subset hr))
  rw [← tot] at k
  generalize pcs 0 st0 (sortR (rowsOf i ds)) = s at v k bd ⊢
  rw [toldT_D]
  unfold val at k
  simp [told]
  rw [okS_seq]
  refine okS_set ?_
  simp
  rw [okS_seq]
  refine okS_for (fun j => JG ds i x s (wC (s.cl.take j))) (xs := s.cl.map Cl.D) ?_ ?_ ?_
  · simp
    exact ⟨rfl, rfl, rfl, rfl⟩
  · intro j y ρ hx hJ
    rw [List.getElem?_map] at hx
    obtain ⟨r, hri, rfl⟩ := Option.map_eq_some_iff.mp hx
    have ok := bd.cl r (List.mem_of_getElem? hri)
    have etk : s.cl.take (j + 1) = s.cl.take j ++ [r] := by
      rw [List.take_succ, hri]
      rfl
    have e : wC (s.cl.take (j + 1)) = wC (s.cl.take j) + wc r := by rw [etk, wC_app, wC_cons]; show _ + (wc r + 0) = _; omega
    rw [e]
    obtain ⟨f, l, m, w, ek, kk⟩ := r
    obtain ⟨e0, e1, p0, p1, n1⟩ := ok
    simp only at e0 e1 p0 p1 n1
    cases hJ with
    | mk h6 h7 h8 h9 =>
      simp [Cl.D, h6, h7, h8, h9]
      unfold b_gain_1
      refine okS_aug (a := wC (s.cl.take j)) (.inl rfl) ?_
      have b1 : (l - f).natAbs < lim := lt_lim (by omega) (by omega)
      have b2 : (m : Int).natAbs < lim := lt_lim (by omega) (by omega)
      have b3 : ((l - f) * (m : Int)).natAbs < lim := mul_bd (by omega) (by omega)
      have b4 : m < lim := by simpa using b2
      cases w with
      | true =>
        simp [b1, b2, b3, b4, shaped_str l_had, shaped_str l_owed, ne_hw, lmn]
        have ew : wc ⟨f, l, m, true, ek, kk⟩ = (l - f) * m := by simp [wc, sg2]
        rw [ew]
        exact ⟨rfl, rfl, rfl, rfl⟩
      | false =>
        simp [b1, b2, b3, b4, shaped_str l_had, shaped_str l_owed, ne_hw, lmn]
        have ew : wc ⟨f, l, m, false, ek, kk⟩ = -((l - f) * m) := by simp [wc, sg2]
        rw [ew]
        exact ⟨rfl, rfl, rfl, rfl⟩
  · intro ρ hJ
    rw [List.length_map, List.take_length] at hJ
    rw [nxt_nx, okS_seq]
    refine okS_for (fun j => JG ds i x s (wC s.cl + wO x s.h (s.op.take j))) (xs := s.op.map Op.D) ?_ ?_ ?_
    · cases hJ with
      | mk h6 h7 h8 h9 =>
        simp [wO]
        exact ⟨h6, h7, h8, h9⟩
    · intro j y ρ hx hJ
      rw [List.getElem?_map] at hx
      obtain ⟨r, hri, rfl⟩ := Option.map_eq_some_iff.mp hx
      have ok := bd.op r (List.mem_of_getElem? hri)
      have hne : wdS s = if s.h then s_has else s_owes := by
        unfold wdS
        cases h : s.op with
        | nil => rw [h] at hri; simp at hri
        | cons _ _ => rfl
      have etk : s.op.take (j + 1) = s.op.take j ++ [r] := by
        rw [List.take_succ, hri]
        rfl
      have e : wO x s.h (s.op.take (j + 1)) = wO x s.h (s.op.take j) + wo x s.h r := by rw [etk, wO_app, wO_cons, wO_nil]; omega
      rw [e, ← Int.add_assoc]
      generalize wC s.cl + wO x s.h (s.op.take j) = z at hJ ⊢
      obtain ⟨p, c, kk⟩ := r
      obtain ⟨p0, p1, c1⟩ := ok
      simp only at p0 p1 c1
      have b1 : (x - p).natAbs < lim := lt_lim (by omega) (by omega)
      have b2 : (c : Int).natAbs < lim := lt_lim (by omega) (by omega)
      have b3 : ((x - p) * (c : Int)).natAbs < lim := mul_bd (by omega) (by omega)
      have b4 : c < lim := by simpa using b2
      cases hJ with
      | mk h6 h7 h8 h9 =>
        simp [Op.D, h6, h8]
        unfold b_gain_0
        refine okS_aug (a := z) (.inl rfl) ?_
        cases hh : s.h with
        | true =>
          rw [hh] at hne
          simp at hne
          simp [b1, b2, b3, b4, shaped_str l_has, shaped_str l_owes, hne, ne_hw, lmn]
          have ew : wo x true ⟨p, c, kk⟩ = (x - p) * c := by simp [wo, sg2]
          rw [ew, ← hne]
          exact ⟨rfl, h7, rfl, h9⟩
        | false =>
          rw [hh] at hne
          simp at hne
          simp [b1, b2, b3, b4, shaped_str l_has, shaped_str l_owes, hne, ne_hw, lmn]
          have ew : wo x false ⟨p, c, kk⟩ = -((x - p) * c) := by simp [wo, sg2]
          rw [ew, ← hne]
          exact ⟨rfl, h7, rfl, h9⟩
    · intro ρ hJ
      rw [List.length_map, List.take_length] at hJ
      cases hJ with
      | mk h6 h7 h8 h9 =>
        simp
        exact k _
end PC

end

section
set_option Elab.async false
set_option linter.all false
set_option maxRecDepth 100000
namespace PC
open PySem PySem.Spec PyProof.Rows L2 VL SM
noncomputable abbrev U := Int × Bool
noncomputable def uS (L : List U) (u : U) : List U := match L with
  | [] => [u]
  | e :: r => if e.2 = u.2 then e :: r ++ [u] else r
noncomputable def un (l : Lt) : U := (l.p, l.d)
theorem lot_un (s : List Cl × List Lt) (l : Lt) : (lotStep s l).2.map un = uS (s.2.map un) (un l) := by
  obtain ⟨c, L⟩ := s
  cases L with
  | nil => rfl
  | cons e r =>
    show ((if e.d = l.d then (c, e :: r ++ [l]) else (bump c ⟨e.p, l.p, 1, l.d, e.k, l.k⟩, r)) : List Cl × List Lt).2.map un = if e.d = l.d then (un e :: r.map un) ++ [un l] else r.map un
    split <;> simp
theorem fold_un : ∀ (ls : List Lt) (s : List Cl × List Lt), (ls.foldl lotStep s).2.map un = (ls.map un).foldl uS (s.2.map un)
  | [], s => rfl
  | l :: ls, s => by rw [List.foldl_cons, fold_un ls, lot_un, List.map_cons, List.foldl_cons]
noncomputable def uR (r : Rw) : List U := List.replicate r.c (r.p, r.d)
theorem allLots_un : ∀ (rs : List Rw) (k : Nat), (allLots k rs).map un = rs.flatMap uR
  | [], k => rfl
  | r :: rs, k => by
    rw [allLots, List.map_append, allLots_un rs, List.flatMap_cons]
    congr 1
    unfold lotsOf uR
    rw [List.map_replicate]
    rfl
theorem st0_ok : StOk 0 st0 := ⟨fun _ h => (nomatch h), List.nodup_nil, fun _ h => (nomatch h), fun _ h => (nomatch h)⟩
noncomputable def fU (s : St) : List U := s.op.flatMap fun o => List.replicate o.c (o.p, !s.h)
theorem fU_eq {s : St} : (flatO (!s.h) s.op).map un = fU s := by
  unfold flatO fU
  rw [List.map_flatMap]
  congr 1
  funext o
  rw [List.map_replicate]
  rfl
theorem final_un (rs : List Rw) : fU (pcs 0 st0 rs) = (rs.flatMap uR).foldl uS [] := by
  have a := (all_fold (rs := rs) st0_ok).1
  have b := congrArg (fun z : List Cl × List Lt => z.2.map un) a
  simp only [fold_un] at b
  rw [← fU_eq, ← b, allLots_un]
  rfl
theorem final_pos (rs : List Rw) : ∀ o ∈ (pcs 0 st0 rs).op, 0 < o.c := ((all_fold (rs := rs) st0_ok).2).pos
noncomputable def Hom (L : List U) : Prop := ∀ a ∈ L, ∀ b ∈ L, a.2 = b.2
theorem Hom.step {L : List U} (h : Hom L) (u : U) : Hom (uS L u) := by
  cases L with
  | nil =>
    intro a ha b hb
    rw [show uS [] u = [u] from rfl] at ha hb
    rw [List.mem_singleton.mp ha, List.mem_singleton.mp hb]
  | cons e r =>
    intro a ha b hb
    unfold uS at ha hb
    simp only at ha hb
    split at ha
    · rename_i q
      rw [if_pos q] at hb
      have z : ∀ x ∈ e :: r ++ [u], x.2 = u.2 := fun x hx => by
        rcases List.mem_append.mp hx with hx | hx
        · rw [h x hx e List.mem_cons_self, q]
        · rw [List.mem_singleton.mp hx]
      rw [z a ha, z b hb]
    · rename_i q
      rw [if_neg q] at hb
      exact h a (List.mem_cons_of_mem _ ha) b (List.mem_cons_of_mem _ hb)
theorem Hom.fold : ∀ (us : List U) {L : List U}, Hom L → Hom (us.foldl uS L)
  | [], _, h => h
  | u :: us, _, h => Hom.fold us (h.step u)
theorem two_un {L : List U} (h : Hom L) {p : Int} {a b : Bool} (ne : a ≠ b) (hd : ∀ e ∈ L, e.2 = a) : uS (uS L (p, a)) (p, b) = uS (uS L (p, b)) (p, a) := by
  cases L with
  | nil =>
    show (if a = b then _ else []) = if b = a then _ else []
    rw [if_neg ne, if_neg (Ne.symm ne)]
  | cons e r =>
    have ea : e.2 = a := hd e List.mem_cons_self
    have h1 : uS (e :: r) (p, a) = e :: (r ++ [(p, a)]) := by
      show (if e.2 = a then e :: r ++ [(p, a)] else r) = _
      rw [if_pos ea]
      rfl
    have h2 : uS (e :: r) (p, b) = r := by
      show (if e.2 = b then e :: r ++ [(p, b)] else r) = _
      rw [if_neg (by rw [ea]; exact ne)]
    have h3 : uS (e :: (r ++ [(p, a)])) (p, b) = r ++ [(p, a)] := by
      show (if e.2 = b then _ else r ++ [(p, a)]) = _
      rw [if_neg (by rw [ea]; exact ne)]
    rw [h1, h2, h3]
    cases r with
    | nil => rfl
    | cons f r =>
      show _ = if f.2 = a then f :: r ++ [(p, a)] else r
      rw [if_pos (hd f (by simp))]
theorem comm_un {L : List U} (h : Hom L) (u v : U) (hp : u.1 = v.1) : uS (uS L u) v = uS (uS L v) u := by
  obtain ⟨p, a⟩ := u
  obtain ⟨q, b⟩ := v
  have hp : p = q := hp
  subst hp
  by_cases ne : a = b
  · rw [ne]
  · have : (∀ e ∈ L, e.2 = a) ∨ ∀ e ∈ L, e.2 = b := by
      cases L with
      | nil => exact .inl fun _ h => nomatch h
      | cons e r =>
        by_cases q : e.2 = a
        · exact .inl fun x hx => by rw [h x hx e List.mem_cons_self, q]
        · refine .inr fun x hx => ?_
          rw [h x hx e List.mem_cons_self]
          cases a <;> cases b <;> cases q2 : e.2 <;> simp_all
    rcases this with z | z
    · exact two_un h ne z
    · exact (two_un h (Ne.symm ne) z).symm
theorem past_un (u : U) : ∀ (us : List U) {L : List U}, Hom L → (∀ v ∈ us, v.1 = u.1) → us.foldl uS (uS L u) = uS (us.foldl uS L) u
  | [], L, h, _ => rfl
  | v :: us, L, h, hv => by
    rw [List.foldl_cons, List.foldl_cons, comm_un h u v (hv v List.mem_cons_self).symm, past_un u us (h.step v) fun w hw => hv w (List.mem_cons_of_mem _ hw)]
theorem past_all : ∀ (xs ys : List U) {L : List U}, Hom L → (∀ x ∈ xs, ∀ y ∈ ys, y.1 = x.1) → ys.foldl uS (xs.foldl uS L) = xs.foldl uS (ys.foldl uS L)
  | [], ys, L, h, _ => rfl
  | x :: xs, ys, L, h, hv => by
    rw [List.foldl_cons, List.foldl_cons, past_all xs ys (h.step x) fun a ha => hv a (List.mem_cons_of_mem _ ha), past_un x ys h (hv x List.mem_cons_self)]
noncomputable def kle (a b : Rw) : Prop := a.m < b.m ∨ (a.m = b.m ∧ a.p ≤ b.p)
theorem uR_p {r : Rw} : ∀ u ∈ uR r, u.1 = r.p := fun u hu => by rw [(List.mem_replicate.mp hu).2]
theorem front_un {x : Rw} : ∀ (A : List Rw) {L : List U}, Hom L → (∀ a ∈ A, a.p = x.p) → (uR x).foldl uS ((A.flatMap uR).foldl uS L) = (A.flatMap uR).foldl uS ((uR x).foldl uS L) := fun A L h ha =>
  past_all (A.flatMap uR) (uR x) h fun u hu v hv => by
    obtain ⟨a, h1, h2⟩ := List.mem_flatMap.mp hu
    rw [uR_p v hv, uR_p u h2, ha a h1]
theorem fold_perm : ∀ (xs ys : List Rw) {L : List U}, xs.Perm ys → xs.Pairwise kle → ys.Pairwise kle → Hom L → (xs.flatMap uR).foldl uS L = (ys.flatMap uR).foldl uS L
  | [], ys, L, hp, _, _, _ => by rw [hp.symm.eq_nil]
  | x :: xs, ys, L, hp, h1, h2, h => by
    have hx : x ∈ ys := hp.mem_iff.mp List.mem_cons_self
    obtain ⟨A, B, rfl⟩ := List.append_of_mem hx
    have hp2 : xs.Perm (A ++ B) := (hp.trans List.perm_middle).cons_inv
    rw [List.pairwise_cons] at h1
    rw [List.pairwise_append] at h2
    have ea : ∀ a ∈ A, a.p = x.p := fun a ha => by
      have q1 : kle a x := h2.2.2 a ha x List.mem_cons_self
      have q2 : kle x a := h1.1 a (hp2.mem_iff.mpr (List.mem_append_left _ ha))
      rcases q1 with q1 | ⟨q1, q3⟩ <;> rcases q2 with q2 | ⟨q2, q4⟩ <;> omega
    have h3 : (A ++ B).Pairwise kle := List.pairwise_append.mpr ⟨h2.1, (List.pairwise_cons.mp h2.2.1).2, fun a ha b hb => h2.2.2 a ha b (List.mem_cons_of_mem _ hb)⟩
    rw [List.flatMap_cons, List.foldl_append, fold_perm xs (A ++ B) hp2 h1.2 h3 (h.fold _), List.flatMap_append, List.flatMap_append, List.flatMap_cons, List.foldl_append, List.foldl_append, List.foldl_append, front_un A h ea]
theorem rle_kle {a b : Rw} (h : rle a b = true) : kle a b := by
  rw [rle_eq] at h
  have h : ¬ ky b < ky a := by simpa using h
  unfold ky at h
  rw [List.cons_lt_cons_iff, List.cons_lt_cons_iff] at h
  unfold kle
  have h1 : ¬ b.m < a.m := fun z => h (.inl z)
  by_cases e : a.m = b.m
  · refine .inr ⟨e, ?_⟩
    have h2 : ¬ b.p < a.p := fun z => h (.inr ⟨e.symm, .inl z⟩)
    omega
  · exact .inl (by omega)
theorem sortR_kle (rs : List Rw) : (sortR rs).Pairwise kle := sortR_pw.imp rle_kle
theorem hom_nil : Hom [] := fun _ h => nomatch h
theorem part_un {A B : List Rw} {r : Rw} {cs : List Nat} (hs : cs.sum = r.c) : fU (pcs 0 st0 (sortR (A ++ cs.map (fun c => { r with c := c }) ++ B))) = fU (pcs 0 st0 (sortR (A ++ r :: B))) := by
  rw [final_un, final_un]
  have hr : r ∈ sortR (A ++ r :: B) := sortR_perm.mem_iff.mpr (by simp)
  obtain ⟨P, Q, e⟩ := List.append_of_mem hr
  have pw := sortR_kle (A ++ r :: B)
  rw [e] at pw ⊢
  have pq : (P ++ r :: Q).Perm (A ++ r :: B) := by rw [← e]; exact sortR_perm
  have pq2 : (P ++ Q).Perm (A ++ B) := (List.perm_middle.symm.trans (pq.trans List.perm_middle)).cons_inv
  have es : (P ++ cs.map (fun c => { r with c := c }) ++ Q).Pairwise kle := by
    rw [List.pairwise_append] at pw
    obtain ⟨p1, p2, p3⟩ := pw
    rw [List.pairwise_cons] at p2
    rw [List.pairwise_append, List.pairwise_append]
    refine ⟨⟨p1, ?_, fun a ha b hb => ?_⟩, p2.2, fun a ha b hb => ?_⟩
    · rw [List.pairwise_map]
      exact List.pairwise_of_forall fun x y => .inr ⟨rfl, Int.le_refl _⟩
    · obtain ⟨c, _, rfl⟩ := List.mem_map.mp hb
      exact p3 a ha r List.mem_cons_self
    · rcases List.mem_append.mp ha with ha | ha
      · exact p3 a ha b (List.mem_cons_of_mem _ hb)
      · obtain ⟨c, _, rfl⟩ := List.mem_map.mp ha
        exact p2.1 b hb
  have pm : (sortR (A ++ cs.map (fun c => { r with c := c }) ++ B)).Perm (P ++ cs.map (fun c => { r with c := c }) ++ Q) := by
    refine sortR_perm.trans ?_
    have a1 : ∀ X Y : List Rw, (X ++ cs.map (fun c => ({ r with c := c } : Rw)) ++ Y).Perm (cs.map (fun c => ({ r with c := c } : Rw)) ++ (X ++ Y)) := fun X Y => by
      rw [← List.append_assoc]
      exact List.Perm.append_right _ List.perm_append_comm
    exact (a1 A B).trans ((List.Perm.append_left _ pq2.symm).trans (a1 P Q).symm)
  rw [fold_perm _ _ pm (sortR_kle _) es hom_nil]
  congr 1
  have un_cs : ∀ cs : List Nat, (cs.map (fun c => ({ r with c := c } : Rw))).flatMap uR = List.replicate cs.sum (r.p, r.d) := fun cs => by
    induction cs with
    | nil => rfl
    | cons c cs ih =>
      rw [List.map_cons, List.flatMap_cons, ih, List.sum_cons]
      show List.replicate c (r.p, r.d) ++ _ = _
      rw [List.replicate_append_replicate]
  rw [List.flatMap_append, List.flatMap_append, un_cs, hs, List.flatMap_append, List.flatMap_cons, List.append_assoc]
  rfl
noncomputable def tot (op : List Op) (p : Int) : Nat := (op.map fun o => if o.p = p then o.c else 0).sum
theorem tot_count : ∀ (op : List Op) (b : Bool) (p : Int), (op.flatMap fun o => List.replicate o.c (o.p, b)).countP (fun u => decide (u.1 = p)) = tot op p
  | [], b, p => rfl
  | o :: op, b, p => by
    rw [List.flatMap_cons, List.countP_append, tot_count op b p]
    show _ = (if o.p = p then o.c else 0) + tot op p
    congr 1
    rw [List.countP_replicate]
    by_cases e : o.p = p <;> simp [e]
theorem open_same {s t : St} (e : fU s = fU t) (hs : ∀ o ∈ s.op, 0 < o.c) (ht : ∀ o ∈ t.op, 0 < o.c) : wdS s = wdS t ∧ (∀ p, tot s.op p = tot t.op p) ∧ ∀ p, p ∈ s.op.map (·.p) ↔ p ∈ t.op.map (·.p) := by
  have mem : ∀ {s : St}, (∀ o ∈ s.op, 0 < o.c) → ∀ p, p ∈ s.op.map (·.p) ↔ p ∈ (fU s).map (·.1) := fun {s} hs p => by
    rw [List.mem_map, List.mem_map]
    constructor
    · rintro ⟨o, ho, rfl⟩
      refine ⟨(o.p, !s.h), List.mem_flatMap.mpr ⟨o, ho, ?_⟩, rfl⟩
      have := hs o ho
      exact List.mem_replicate.mpr ⟨by omega, rfl⟩
    · rintro ⟨u, hu, rfl⟩
      obtain ⟨o, ho, h⟩ := List.mem_flatMap.mp hu
      exact ⟨o, ho, by rw [(List.mem_replicate.mp h).2]⟩
  refine ⟨?_, fun p => ?_, fun p => by rw [mem hs, mem ht, e]⟩
  · have hd : ∀ {s : St}, (∀ o ∈ s.op, 0 < o.c) → ∀ o op, s.op = o :: op → ∃ r, fU s = (o.p, !s.h) :: r := fun {s} hs o op q => by
      have := hs o (by rw [q]; exact List.mem_cons_self)
      obtain ⟨n, hn⟩ : ∃ n, o.c = n + 1 := ⟨o.c - 1, by omega⟩
      refine ⟨List.replicate n (o.p, !s.h) ++ op.flatMap fun o => List.replicate o.c (o.p, !s.h), ?_⟩
      unfold fU
      rw [q, List.flatMap_cons, hn, List.replicate_succ]
      rfl
    unfold wdS
    cases q : s.op with
    | nil =>
      cases q2 : t.op with
      | nil => rfl
      | cons o op =>
        obtain ⟨r, z⟩ := hd ht o op q2
        rw [← e] at z
        unfold fU at z
        rw [q] at z
        cases z
    | cons o op =>
      obtain ⟨r, z⟩ := hd hs o op q
      cases q2 : t.op with
      | nil =>
        rw [e] at z
        unfold fU at z
        rw [q2] at z
        cases z
      | cons o2 op2 =>
        obtain ⟨r2, z2⟩ := hd ht o2 op2 q2
        rw [e, z2] at z
        have : (!t.h) = !s.h := by
          have := congrArg (fun l : List U => (l.head?).map (·.2)) z
          simpa using this
        have : s.h = t.h := by cases h1 : s.h <;> cases h2 : t.h <;> simp_all
        simp only [this]
  · rw [← tot_count s.op (!s.h) p, ← tot_count t.op (!t.h) p]
    show (fU s).countP _ = (fU t).countP _
    rw [e]
noncomputable def Rw.fl (r : Rw) : Rw := { r with d := !r.d }
noncomputable def Cl.fl (c : Cl) : Cl := { c with w := !c.w }
theorem closeL_fl {p : Int} {w : Bool} {k : Nat} : ∀ {op : List Op} {c : Nat}, closeL p (!w) k c op = ((closeL p w k c op).1.map Cl.fl, (closeL p w k c op).2)
  | [], c => rfl
  | o :: op, c => by
    unfold closeL
    split
    · rfl
    · split
      · rfl
      · rw [closeL_fl (op := op)]
        rfl
structure Fl (s t : St) : Prop where
  cl : t.cl = s.cl.map Cl.fl
  op : t.op = s.op
  h : s.op = [] ∨ t.h = !s.h
theorem step_nil {k : Nat} {s : St} {r : Rw} (e : s.op = []) (hc : 0 < r.c) : stepR k s r = ⟨s.cl, [⟨r.p, r.c, k⟩], !r.d⟩ := by
  unfold stepR
  rw [e]
  have l : lay r.p r.c k [] = [⟨r.p, r.c, k⟩] := by unfold lay; rw [if_pos hc]; rfl
  split
  · have c0 : closeL r.p r.d k r.c [] = ([], r.c, []) := rfl
    rw [c0]
    show (⟨s.cl ++ [], lay r.p r.c k [], if 0 < r.c then !r.d else s.h⟩ : St) = _
    rw [l, List.append_nil]
    simp [hc]
  · rw [l]
    first | done | simp [hc]
theorem Fl.step {k : Nat} {s t : St} {r : Rw} (f : Fl s t) (hc : 0 < r.c) : Fl (stepR k s r) (stepR k t r.fl) := by
  by_cases e : s.op = []
  · rw [step_nil e hc, step_nil (by rw [f.op, e]) (by exact hc)]
    exact ⟨f.cl, rfl, .inr rfl⟩
  · have hh : t.h = !s.h := f.h.resolve_left e
    unfold stepR
    by_cases q : s.h = r.d
    · have q2 : t.h = r.fl.d := by rw [hh, q]; rfl
      rw [if_pos q, if_pos q2]
      have cf : closeL r.fl.p r.fl.d k r.fl.c t.op = ((closeL r.p r.d k r.c s.op).1.map Cl.fl, (closeL r.p r.d k r.c s.op).2) := by
        rw [f.op]
        exact closeL_fl
      rw [cf]
      refine ⟨by simp only [f.cl, List.map_append], rfl, .inr ?_⟩
      simp only
      split
      · rfl
      · exact hh
    · have q2 : ¬ t.h = r.fl.d := by
        rw [hh]
        show ¬ (!s.h) = !r.d
        intro z
        exact q (by cases h1 : s.h <;> cases h2 : r.d <;> simp_all)
      rw [if_neg q, if_neg q2]
      refine ⟨f.cl, by rw [f.op]; rfl, .inr ?_⟩
      simp only
      rw [if_pos hc, if_pos (by exact hc)]
      rfl
theorem Fl.all : ∀ {rs : List Rw} {k : Nat} {s t : St}, Fl s t → (∀ r ∈ rs, 0 < r.c) → Fl (pcs k s rs) (pcs k t (rs.map Rw.fl))
  | [], _, _, _, f, _ => f
  | r :: rs, k, s, t, f, h => by
    rw [pcs, List.map_cons, pcs]
    exact Fl.all (f.step (h r List.mem_cons_self)) fun q hq => h q (List.mem_cons_of_mem _ hq)
noncomputable def k4 (r : Rw) : List Int := [r.m, r.p, r.o, r.c]
theorem rle_fl {a b : Rw} (h : k4 a ≠ k4 b) : rle a.fl b.fl = rle a b := by
  rw [rle_eq, rle_eq]
  congr 1
  rw [decide_eq_decide]
  unfold ky
  simp only [List.cons_lt_cons_iff]
  have hn : ¬ (b.m = a.m ∧ b.p = a.p ∧ b.o = a.o ∧ (b.c : Int) = a.c) := fun ⟨z1, z2, z3, z4⟩ => h (by unfold k4; rw [z1, z2, z3, z4])
  show (b.m < a.m ∨ b.m = a.m ∧ (b.p < a.p ∨ b.p = a.p ∧ (b.o < a.o ∨ b.o = a.o ∧ ((b.c : Int) < a.c ∨ (b.c : Int) = a.c ∧ _)))) ↔ _
  constructor
  · rintro (z | ⟨z1, z | ⟨z2, z | ⟨z3, z | ⟨z4, _⟩⟩⟩⟩)
    · exact .inl z
    · exact .inr ⟨z1, .inl z⟩
    · exact .inr ⟨z1, .inr ⟨z2, .inl z⟩⟩
    · exact .inr ⟨z1, .inr ⟨z2, .inr ⟨z3, .inl z⟩⟩⟩
    · exact absurd ⟨z1, z2, z3, z4⟩ hn
  · rintro (z | ⟨z1, z | ⟨z2, z | ⟨z3, z | ⟨z4, _⟩⟩⟩⟩)
    · exact .inl z
    · exact .inr ⟨z1, .inl z⟩
    · exact .inr ⟨z1, .inr ⟨z2, .inl z⟩⟩
    · exact .inr ⟨z1, .inr ⟨z2, .inr ⟨z3, .inl z⟩⟩⟩
    · exact absurd ⟨z1, z2, z3, z4⟩ hn
theorem sortR_uniq {xs ys : List Rw} (hp : xs.Perm ys) (h1 : xs.Pairwise fun a b => rle a b = true) (h2 : ys.Pairwise fun a b => rle a b = true) : xs = ys :=
  hp.eq_of_pairwise (fun a b _ _ h h' => rle_anti h h') h1 h2
theorem sortR_fl {rs : List Rw} (nd : (rs.map k4).Nodup) : sortR (rs.map Rw.fl) = (sortR rs).map Rw.fl := by
  refine sortR_uniq (sortR_perm.trans (sortR_perm.symm.map _)) sortR_pw ?_
  rw [List.pairwise_map]
  have nd2 : ((sortR rs).map k4).Nodup := (sortR_perm.map k4).nodup_iff.mpr nd
  have := List.Pairwise.and (sortR_pw (rs := rs)) (List.pairwise_map.mp nd2)
  exact this.imp fun {a b} h => by rw [rle_fl h.2]; exact h.1
end PC

end

section
set_option Elab.async false
set_option linter.all false
set_option maxRecDepth 100000
namespace ST
open PySem PySem.Spec PyProof.Rows L2 VL SM
structure Dl where
  s : Int
  b : Int
  p : Int
  c : Int
  m : Int
noncomputable def Dl.D (d : Dl) : PyData := .tuple [.int d.s, .int d.b, .int d.p, .int d.c, .int d.m]
structure DlOk (n : Nat) (d : Dl) : Prop where
  s0 : 0 ≤ d.s
  s1 : d.s < n
  b0 : 0 ≤ d.b
  b1 : d.b < n
  p0 : 0 ≤ d.p
  p1 : d.p ≤ 1000000000
  c0 : 0 ≤ d.c
  c1 : d.c ≤ 1000000
noncomputable def cL (i : Int) (d : Dl) : Int := (if d.b = i then d.c else 0) - (if d.s = i then d.c else 0)
noncomputable def cC (i : Int) (d : Dl) : Int := (if d.s = i then d.p * d.c else 0) - (if d.b = i then d.p * d.c else 0)
noncomputable def lots (ds : List Dl) (i : Int) : Int := (ds.map (cL i)).sum
noncomputable def coins (ds : List Dl) (i : Int) : Int := (ds.map (cC i)).sum
theorem sum_app (xs ys : List Int) : (xs ++ ys).sum = xs.sum + ys.sum := by
  induction xs with
  | nil => simp
  | cons x xs ih => simp [ih]; omega
theorem lots_snoc {ds : List Dl} {d : Dl} {i : Int} : lots (ds ++ [d]) i = lots ds i + cL i d := by simp [lots, sum_app]
theorem coins_snoc {ds : List Dl} {d : Dl} {i : Int} : coins (ds ++ [d]) i = coins ds i + cC i d := by simp [coins, sum_app]
noncomputable def mem (n : Nat) (f : Int → Int) : List Int := (List.range n).map fun i => f (i : Nat)
theorem mem_get {n : Nat} {f : Int → Int} {i : Nat} (h : i < n) : (mem n f)[i]? = some (f (i : Nat)) := by
  unfold mem
  rw [List.getElem?_map, List.getElem?_range h]
  rfl
theorem mem_len {n : Nat} {f : Int → Int} : (mem n f).length = n := by simp [mem]
theorem mem_set {n : Nat} {f : Int → Int} {i : Nat} {v : Int} : (mem n f).set i v = mem n fun j => if j = (i : Nat) then v else f j := by
  apply List.ext_getElem?
  intro j
  by_cases hj : j < n
  · rw [mem_get hj]
    by_cases e : i = j
    · subst e
      rw [List.getElem?_set_self (by rw [mem_len]; exact hj)]
      simp
    · rw [List.getElem?_set_ne e, mem_get hj]
      have : ¬ ((j : Nat) : Int) = (i : Nat) := by omega
      simp [this]
  · rw [List.getElem?_eq_none (by rw [List.length_set, mem_len]; omega), List.getElem?_eq_none (by rw [mem_len]; omega)]
theorem mem_congr {n : Nat} {f g : Int → Int} (h : ∀ i : Int, 0 ≤ i → i < n → f i = g i) : mem n f = mem n g := by
  unfold mem
  refine List.map_congr_left fun i hi => h _ (by omega) ?_
  have := List.mem_range.mp hi
  omega
theorem rowsSh {f g : Int → Int} {n : Nat} : Sh 2 (.list ((List.range n).map fun i => .tuple [.int (f (i : Nat)), .int (g (i : Nat))])) := .list fun x hx => by
  obtain ⟨i, _, rfl⟩ := List.mem_map.mp hx
  refine .tuple (n := 0) fun x hx => ?_
  simp at hx
  rcases hx with rfl | rfl <;> exact .int
noncomputable def iL (xs : List Int) : List PyData := xs.map .int
theorem repL0 {n : Nat} : repL [.int 0] (n : Nat) = iL (mem n fun _ => 0) := by
  unfold repL iL mem
  rw [Int.toNat_natCast]
  induction n with
  | zero => rfl
  | succ n ih => rw [List.replicate_succ', List.flatten_append, ih, List.range_succ]; simp
theorem repOk0 {n : Nat} (h : n ≤ 100) : repOk [.int 0] (n : Nat) = true := by
  unfold repOk
  rw [Bool.and_eq_true]
  refine ⟨decide_eq_true ⟨by omega, by omega⟩, small_of ?_⟩
  simp
  omega
theorem iL_get {n : Nat} {f : Int → Int} {i : Int} (h0 : 0 ≤ i) (h1 : i < n) : (iL (mem n f))[i.toNat]? = some (.int (f i)) := by
  unfold iL
  rw [List.getElem?_map, mem_get (by omega)]
  have : ((i.toNat : Nat) : Int) = i := by omega
  rw [this]
  rfl
theorem iL_set {n : Nat} {f : Int → Int} {i v : Int} (h0 : 0 ≤ i) : (iL (mem n f)).set i.toNat (.int v) = iL (mem n fun j => if j = i then v else f j) := by
  unfold iL
  rw [← List.map_set, mem_set]
  have : ((i.toNat : Nat) : Int) = i := by omega
  rw [this]
theorem flat_tr {xs : List PyData} : flat (xs.map .dat) = some xs := flat_dat xs
theorem aug_ok {ρ : Rho} {P : VL.Out → Prop} {i j n : Nat} {f : Int → Int} {s v : Int} {op : Int → Int → Int} {fe : M Rv} (hi : ρ[i]? = some (.own .free (tr (iL (mem n f))))) (hj : ρ[j]? = some (.val (.int s))) (s0 : 0 ≤ s) (s1 : s < n) (he : fe ρ = some (.ok (.d (.int v)) ρ))
    (k : P (.nx (ρ.set i (.own .free (tr (iL (mem n fun x => if x = s then op (f s) v else f x))))))) : okS (sAugIx [] [] op (pVar i) (cVar j) fe ρ) P := by
  refine okS_augIx ?_
  rw [okM_pVar, hi]
  simp only [okO_some]
  rw [okM_var_val, hj]
  show okO (some (Rv.d (.int s))) _
  rw [okO_some]
  refine okS_aug1 (ds := iL (mem n f)) rfl (by rw [treeAt_eq, hi]; exact at_nil) s0 (iL_get s0 s1) ?_
  rw [he, okM_ok, rvi_d, okO_some]
  refine ⟨⟨rfl, by rw [modeOk_eq, hi]; rfl⟩, ?_⟩
  rw [putAt_eq, hi]
  simp only [put_nil]
  rw [iL_set s0]
  exact k
inductive JS (n : Nat) (ds : List Dl) (f g : Int → Int) : Rho → Prop where
  | mk {a b c d e : Sl} (ha : frB (some a) = true) (hb : frB (some b) = true) (hc : frB (some c) = true) (hd : frB (some d) = true) (he : frB (some e) = true) :
    JS n ds f g [.val (.int (n : Nat)), .val (.list (ds.map Dl.D)), .own .free (tr (iL (mem n f))), .own .free (tr (iL (mem n g))), a, b, c, d, e]
noncomputable def rowsD (n : Nat) (f g : Int → Int) : List PyData := (List.range n).map fun i => .tuple [.int (f (i : Nat)), .int (g (i : Nat))]
theorem zip_rows {n : Nat} {f g : Int → Int} : zipP (iL (mem n f)) (iL (mem n g)) = rowsD n f g := by
  unfold zipP rowsD iL mem
  rw [List.map_map, List.map_map, List.zip_map', List.map_map]
  rfl
theorem stands_ok {n : Nat} {ds : List Dl} (hn : n ≤ 100) (hd : ∀ d ∈ ds, DlOk n d) {Q : Tr → List Sl → Prop} (k : ∀ outs, Q (tr (rowsD n (lots ds) (coins ds))) outs) : okF (F_stands [.val (.int (n : Nat)), .val (.list (ds.map Dl.D))]) Q := by
  refine okF_run ?_
  simp only [entry, List.map_cons, List.map_nil, pinS_val]
  unfold g_stands
  rw [okS_seq]
  refine okS_setN ?_
  simp [repOk0 hn, List.replicate, repL0]
  rw [okS_seq]
  refine okS_setN ?_
  simp [repOk0 hn, repL0]
  rw [okS_seq]
  refine okS_for (fun i => JS n ds (lots (ds.take i)) (coins (ds.take i))) (xs := ds.map Dl.D) ?_ ?_ ?_
  · simp
    have e1 : lots [] = fun _ => 0 := rfl
    have e2 : coins [] = fun _ => 0 := rfl
    rw [e1, e2]
    exact ⟨rfl, rfl, rfl, rfl, rfl⟩
  · intro i x ρ hx hJ
    rw [List.getElem?_map] at hx
    obtain ⟨d, hdi, rfl⟩ := Option.map_eq_some_iff.mp hx
    have ok := hd d (List.mem_of_getElem? hdi)
    have hil := (List.getElem?_eq_some_iff.mp hdi).1
    have etk : ds.take (i + 1) = ds.take i ++ [d] := by
      rw [List.take_succ, hdi]
      rfl
    have hl : lots (ds.take (i + 1)) = fun j => lots (ds.take i) j + cL j d := funext fun j => by rw [etk, lots_snoc]
    have hc : coins (ds.take (i + 1)) = fun j => coins (ds.take i) j + cC j d := funext fun j => by rw [etk, coins_snoc]
    rw [hl, hc]
    generalize lots (ds.take i) = f at hJ ⊢
    generalize coins (ds.take i) = g at hJ ⊢
    obtain ⟨s, b, p, c, m⟩ := d
    obtain ⟨s0, s1, b0, b1, p0, p1, c0, c1⟩ := ok
    simp only at s0 s1 b0 b1 p0 p1 c0 c1
    cases hJ with
    | mk h4 h5 h6 h7 h8 =>
      simp [Dl.D, h4, h5, h6, h7, h8]
      unfold b_stands_0
      have lm : p.natAbs < lim ∧ c.natAbs < lim := ⟨lt_lim (by omega) (by omega), lt_lim (by omega) (by omega)⟩
      have em : ∀ {ρ : Rho}, ρ[6]? = some (.val (.int p)) → ρ[7]? = some (.val (.int c)) → cBin mulD (cVar 6) (cVar 7) ρ = some (.ok (.d (.int (p * c))) ρ) := fun {ρ} h1 h2 => by
        simp only [cBin, bnd, cVar, h1, h2, bin1, derS_d, mulD_i, lm, and_self, if_true]
      rw [okS_seq]
      refine aug_ok (n := n) rfl rfl s0 s1 rfl ?_
      rw [nxt_nx, okS_seq]
      refine aug_ok (n := n) rfl rfl s0 s1 (em rfl rfl) ?_
      rw [nxt_nx, okS_seq]
      refine aug_ok (n := n) rfl rfl b0 b1 rfl ?_
      rw [nxt_nx]
      refine aug_ok (n := n) rfl rfl b0 b1 (em rfl rfl) ?_
      rw [turn_nx]
      have e1 : (mem n fun x => if x = b then (if b = s then f s - c else f b) + c else if x = s then f s - c else f x) = mem n fun j => f j + cL j ⟨s, b, p, c, m⟩ := mem_congr fun i _ _ => by
        unfold cL
        simp only
        split
        · rename_i h; subst h
          split
          · rename_i h; subst h; simp
          · rename_i h
            have h' : ¬ s = i := fun e => h e.symm
            simp [h']
        · rename_i h
          have h' : ¬ b = i := fun e => h e.symm
          split
          · rename_i h2; subst h2; simp [h']; omega
          · rename_i h2
            have h2' : ¬ s = i := fun e => h2 e.symm
            simp [h', h2']
      have e2 : (mem n fun x => if x = b then (if b = s then g s + p * c else g b) - p * c else if x = s then g s + p * c else g x) = mem n fun j => g j + cC j ⟨s, b, p, c, m⟩ := mem_congr fun i _ _ => by
        unfold cC
        simp only
        split
        · rename_i h; subst h
          split
          · rename_i h; subst h; simp
          · rename_i h
            have h' : ¬ s = i := fun e => h e.symm
            simp [h']; omega
        · rename_i h
          have h' : ¬ b = i := fun e => h e.symm
          split
          · rename_i h2; subst h2; simp [h']
          · rename_i h2
            have h2' : ¬ s = i := fun e => h2 e.symm
            simp [h', h2']
      rw [e1, e2]
      exact ⟨rfl, rfl, rfl, rfl, rfl⟩
  · intro ρ hJ
    rw [List.length_map, List.take_length] at hJ
    cases hJ with
    | mk h4 h5 h6 h7 h8 =>
      rw [nxt_nx]
      refine okS_ret ?_
      simp [tr, flat_tr]
      refine ⟨by simp [iL, mem_len], ?_⟩
      rw [zip_rows]
      exact k _
end ST

end

section
set_option Elab.async false
set_option linter.all false
set_option maxRecDepth 100000
namespace ST
open PySem PySem.Spec PyProof.Rows L2 VL SM
inductive JL (n : Nat) (ds : List Dl) (rs : List PyData) : Rho → Prop where
  | mk {a b c d e f : Sl} (ha : frB (some a) = true) (hb : frB (some b) = true) (hc : frB (some c) = true) (hc' : unown c = true) (hd : frB (some d) = true) (he : frB (some e) = true) (hf : frB (some f) = true) :
    JL n ds rs [.val (.int (n : Nat)), .val (.list (ds.map Dl.D)), .own .free (tr rs), a, b, c, d, e, f]
end ST

end

section
set_option Elab.async false
set_option linter.all false
set_option maxRecDepth 100000
namespace PC
open PySem PySem.Spec PyProof.Rows L2 VL SM
inductive JD (n : Nat) (most : Int) (es : List Dl) : Rho → Prop where
  | mk {t : Tr} {a b c : Sl} (ht : BagT t) (ha : frB (some a) = true) (hb : frB (some b) = true) (hc : frB (some c) = true) :
    JD n most es [.own .pin t, .val (.int (n : Nat)), .val (.int most), .own .free (tr (es.map Dl.D)), a, b, c]
theorem buyer_ok {n s r : Int} (s0 : 0 ≤ s) (s1 : s < n) (r0 : 0 ≤ r) (r1 : r < n - 1) : 0 ≤ (s + 1 + r) % n ∧ (s + 1 + r) % n < n ∧ s ≠ (s + 1 + r) % n := by
  refine ⟨Int.emod_nonneg _ (by omega), Int.emod_lt_of_pos _ (by omega), ?_⟩
  by_cases h : s + 1 + r < n
  · rw [Int.emod_eq_of_lt (by omega) h]; omega
  · have e : s + 1 + r = (s + 1 + r - n) + n := by omega
    rw [e, Int.add_emod_right, Int.emod_eq_of_lt (by omega) (by omega)]
    omega
structure Sm (d : Dl) : Prop where
  p0 : 100 ≤ d.p
  p1 : d.p ≤ 103
  c1 : d.c ≤ 6
  m0 : 0 ≤ d.m
  m1 : d.m ≤ 4
theorem small_deals_ok {m : Md} {t : Tr} {n : Nat} {most : Int} (hm : m.ow = true) (hb : BagT t) (n0 : 2 ≤ n) (n1 : n ≤ 100) (m0 : 0 ≤ most) (m1 : most ≤ 1000) {Q : Tr → List Sl → Prop}
    (k : ∀ (es : List Dl) t', (∀ d ∈ es, DlOk n d) → (∀ d ∈ es, Sm d) → es.length ≤ most → BagT t' → Q (tr (es.map Dl.D)) [.own .pin t', .val (.int (n : Nat)), .val (.int most)]) :
    okF (F__law_small_deals [.own m t, .val (.int (n : Nat)), .val (.int most)]) Q := by
  have hp : pinS (.own m t) = .own .pin t := by cases m <;> first | rfl | cases hm
  refine okF_run ?_
  simp only [entry, List.map_cons, List.map_nil, pinS_val, hp]
  unfold g__law_small_deals
  rw [okS_seq]
  refine okS_setN ?_
  simp [List.replicate]
  rw [okS_seq]
  obtain ⟨g0, g1, g2⟩ := hb
  refine okS_E' (okM_iRange1 ?_)
  simp [-okM_callN]
  refine okM_take rfl (by simp) rfl ⟨g0, g1, g2⟩ (by omega) (lt_lim (by omega) (by omega)) fun many t' r0 r1 ht => ?_
  simp
  refine ⟨by omega, by omega, ?_⟩
  refine okS_loop _ (fun i ρ => ∃ es : List Dl, es.length = i ∧ (∀ d ∈ es, DlOk n d) ∧ (∀ d ∈ es, Sm d) ∧ JD n most es ρ) _ ?_ ?_ ?_
  · exact ⟨[], rfl, (fun d hd => nomatch hd), (fun d hd => nomatch hd), ht, rfl, rfl, rfl⟩
  · rintro i x ρ hx ⟨es, hl, hok, hsm, hJ⟩
    obtain ⟨hi, rfl⟩ := rangeD_get0 hx
    cases hJ with
    | @mk t a b c ht h4 h5 h6 =>
      simp [h4]
      unfold b__law_small_deals_0
      rw [okS_seq]
      refine okS_set ?_
      obtain ⟨g0, g1, g2⟩ := ht
      simp [-okM_callN]
      refine okM_take rfl (by simp) rfl ⟨g0, g1, g2⟩ (by omega) (lt_lim (by omega) (by omega)) fun s t' s0 s1 ht => ?_
      simp [h5]
      rw [okS_seq]
      refine okS_set ?_
      obtain ⟨g0, g1, g2⟩ := ht
      simp [-okM_callN]
      refine okM_take rfl (by simp) rfl ⟨g0, g1, g2⟩ (by omega) (lt_lim (by omega) (by omega)) fun o t' o0 o1 ht => ?_
      simp [h6]
      refine ⟨by omega, ?_⟩
      refine app_ok (m := .free) (m' := .free) (xs := es.map Dl.D) rfl rfl (by simp; omega) (by simp) ?_
      obtain ⟨g0, g1, g2⟩ := ht
      simp [-okM_callN]
      refine okM_take rfl (by simp) rfl ⟨g0, g1, g2⟩ (by omega) (lt_lim (by omega) (by omega)) fun p t' p0 p1 ht => ?_
      obtain ⟨g0, g1, g2⟩ := ht
      simp [-okM_callN]
      refine okM_take rfl (by simp) rfl ⟨g0, g1, g2⟩ (by omega) (lt_lim (by omega) (by omega)) fun c t' c0 c1 ht => ?_
      obtain ⟨g0, g1, g2⟩ := ht
      simp [-okM_callN]
      refine okM_take rfl (by simp) rfl ⟨g0, g1, g2⟩ (by omega) (lt_lim (by omega) (by omega)) fun mo t' mo0 mo1 ht => ?_
      simp
      have hbuy := buyer_ok s0 s1 o0 o1
      obtain ⟨c', rfl⟩ : ∃ c' : Nat, c = (c' : Nat) := ⟨c.toNat, by omega⟩
      have e : es.map Dl.D ++ [PyData.tuple [.int s, .int ((s + 1 + o) % n), .int (100 + p), .int (1 + (c' : Int)), .int mo]] = (es ++ [Dl.mk s ((s + 1 + o) % n) (100 + p) (1 + c') mo]).map Dl.D := by simp [Dl.D]
      refine ⟨es ++ [⟨s, (s + 1 + o) % n, 100 + p, 1 + c', mo⟩], by simp [hl], fun d hd => ?_, fun d hd => ?_, ?_⟩
      · rcases List.mem_append.mp hd with z | z
        · exact hok d z
        · rw [List.mem_singleton.mp z]
          exact ⟨s0, s1, hbuy.1, hbuy.2.1, hbuy.2.2, by show 0 ≤ 100 + p; omega, by show 100 + p ≤ 1000000000; omega, by show 1 ≤ 1 + c'; omega, by show 1 + c' ≤ 1000000; omega⟩
      · rcases List.mem_append.mp hd with z | z
        · exact hsm d z
        · rw [List.mem_singleton.mp z]
          exact ⟨by show 100 ≤ 100 + p; omega, by show 100 + p ≤ 103; omega, by show 1 + c' ≤ 6; omega, mo0, by show mo ≤ 4; omega⟩
      · rw [e]
        exact ⟨ht, rfl, rfl, rfl⟩
  · rintro ρ ⟨es, hl, hok, hsm, hJ⟩
    rw [rangeD_len] at hl
    cases hJ with
    | @mk t a b c ht h4 h5 h6 =>
      simp
      exact k es t hok hsm (by omega) ht
end PC

end

section
set_option Elab.async false
set_option linter.all false
set_option maxRecDepth 100000
namespace VL
open PySem PySem.Spec PyProof.Rows L2
section
variable {ρ : Rho} {P : Out → Prop}
noncomputable def fldIx (c f : Str) : Option Tr → Option Nat
  | some (.ins c' fs) => if c' = c then keyIx f fs else none
  | _ => none
@[simp] theorem okM_pFld {c f : Str} {g : M (Nat × List Nat)} {Q : Nat × List Nat → Rho → Prop} : okM (pFld c f g ρ) Q ↔ okM (g ρ) fun r ρ1 => okO (fldIx c f (treeAt ρ1 r)) fun j => Q (r.1, r.2 ++ [j]) ρ1 := by
  unfold pFld
  rw [okM_bnd]
  refine okM_congr fun r ρ1 => ?_
  unfold fldIx
  cases h : treeAt ρ1 r with
  | none => simp
  | some t =>
    cases t with
    | ins c' fs =>
      simp only
      by_cases e : c' = c
      · rw [if_pos e, if_pos e]
        cases keyIx f fs <;> simp
      · rw [if_neg e, if_neg e]; simp
    | _ => simp
@[simp] theorem okM_meth {c m : Str} {Ts : List Nat} {n i : Nat} {G : Fn} {fs : M (List Rv)} {Q : Tr → Rho → Prop} : okM (nMeth c m Ts n G i fs ρ) Q ↔ isCls c m ρ i = true ∧ okM (fs ρ) fun xs ρ1 => okM (callR Ts n G (.o i :: xs) ρ1) Q := by
  unfold nMeth
  by_cases h : isCls c m ρ i = true
  · rw [if_pos h, okM_bnd]; simp [h]
  · rw [if_neg h]; simp [h]
@[simp] theorem okM_dictC {f : M (Nat × List Nat)} {Q : Tr → Rho → Prop} : okM (nDictC f ρ) Q ↔ okM (f ρ) fun r ρ1 => okO (match treeAt ρ1 r with
  | some (.dk kvs) => dats kvs
  | _ => none) fun ds => Q (.dk (toT ds)) ρ1 := by
  unfold nDictC
  rw [okM_bnd]
  refine okM_congr fun r ρ1 => ?_
  cases h : treeAt ρ1 r with
  | none => simp
  | some t =>
    cases t with
    | dk kvs => simp only; cases dats kvs <;> simp
    | _ => simp
@[simp] theorem okM_listC {f : M (Nat × List Nat)} {Q : Tr → Rho → Prop} : okM (nListC f ρ) Q ↔ okM (f ρ) fun r ρ1 => okO (flatAt ρ1 r) fun ds => Q (.lst (ds.map .dat)) ρ1 := by
  unfold nListC flatAt
  rw [okM_bnd]
  refine okM_congr fun r ρ1 => ?_
  cases h : treeAt ρ1 r with
  | none => simp
  | some t =>
    cases t with
    | lst ts => simp only; cases flat ts <;> simp
    | _ => simp
@[simp] theorem okM_copyDs {v : Nat} {f : M (Nat × List Nat)} {Q : Tr → Rho → Prop} : okM (nCopyDs v f ρ) Q ↔ okM (f ρ) fun r ρ1 => okO (match treeAt ρ1 r with
  | some (.lst ts) => copies ts
  | _ => none) fun dss => (v < ρ1.length ∧ small dss.length = true) ∧ Q (.lst (copyT dss)) ρ1 := by
  unfold nCopyDs
  rw [okM_bnd]
  refine okM_congr fun r ρ1 => ?_
  cases h : treeAt ρ1 r with
  | none => simp
  | some t =>
    cases t with
    | lst ts =>
      simp only
      cases copies ts with
      | none => simp
      | some dss =>
        simp only [okO_some]
        by_cases h : v < ρ1.length ∧ small dss.length = true
        · rw [if_pos (by simpa using h)]; simp only [okM_ok, h, true_and]
        · rw [if_neg (by simpa using h)]
          simp only [okM_none, false_iff]
          exact fun z => h z.1
    | _ => simp
@[simp] theorem okM_mvP {Ts : List Nat} {f : M (Nat × List Nat)} {Q : Tr → Rho → Prop} : okM (nMvP Ts f ρ) Q ↔ okM (f ρ) fun r ρ1 => (Ts.contains r.1 = true ∧ modeOk ρ1 r.1 = true) ∧ okO (treeAt ρ1 r) fun t => Q t (putAt ρ1 r .hole) := by
  unfold nMvP
  rw [okM_bnd]
  refine okM_congr fun r ρ1 => ?_
  rw [← Bool.and_eq_true]
  split
  · rename_i h
    simp only [h, true_and]
    cases treeAt ρ1 r <;> simp
  · rename_i h
    simp only [okM_none, false_iff]
    exact fun z => h z.1
@[simp] theorem okM_popT {Ts : List Nat} {f : M (Nat × List Nat)} {Q : Tr → Rho → Prop} : okM (nPopT Ts f ρ) Q ↔ okM (f ρ) fun r ρ1 => (Ts.contains r.1 = true ∧ modeOk ρ1 r.1 = true) ∧ okO (match treeAt ρ1 r with
  | some (.lst ts) => ts.getLast?.map fun t => (ts, t)
  | _ => none) fun p => Q p.2 (putAt ρ1 r (.lst p.1.dropLast)) := by
  unfold nPopT
  rw [okM_bnd]
  refine okM_congr fun r ρ1 => ?_
  rw [← Bool.and_eq_true]
  split
  · rename_i h
    simp only [h, true_and]
    cases h : treeAt ρ1 r with
    | none => simp
    | some t =>
      cases t with
      | lst ts => simp only; cases ts.getLast? <;> simp
      | _ => simp
  · rename_i h
    simp only [okM_none, false_iff]
    exact fun z => h z.1
@[simp] theorem okM_cEmp {f : M (Nat × List Nat)} {g : M Tr} {Q : Bool → Rho → Prop} : okM (cEmp f g ρ) Q ↔ okM (f ρ) fun r ρ1 => okM (g ρ1) fun tn ρ2 => okO (match treeAt ρ2 r, tn with
  | some (.lst ts), .lst [] => some ts.isEmpty
  | _, _ => none) fun b => Q b ρ2 := by
  unfold cEmp
  rw [okM_bnd]
  refine okM_congr fun r ρ1 => ?_
  rw [okM_bnd]
  refine okM_congr fun tn ρ2 => ?_
  split <;> simp_all
@[simp] theorem okM_lenP {f : M (Nat × List Nat)} {Q : Rv → Rho → Prop} : okM (cLenP f ρ) Q ↔ okM (f ρ) fun r ρ1 => okO (match treeAt ρ1 r with
  | some (.lst ts) => some ts.length
  | _ => none) fun n => Q (.d (.int n)) ρ1 := by
  unfold cLenP
  rw [okM_bnd]
  refine okM_congr fun r ρ1 => ?_
  cases h : treeAt ρ1 r with
  | none => simp
  | some t => cases t <;> simp
@[simp] theorem okM_lNil {Q : List LA → Rho → Prop} : okM (lNil ρ) Q ↔ Q [] ρ := okM_ok
@[simp] theorem okM_lD {f : M Rv} {g : M (List LA)} {Q : List LA → Rho → Prop} : okM (lD f g ρ) Q ↔ okM (f ρ) fun x ρ1 => okM (g ρ1) fun ls ρ2 => okO (rvd x) fun d => Q (.d d :: ls) ρ2 := by
  unfold lD
  rw [okM_bnd]
  refine okM_congr fun x ρ1 => ?_
  rw [okM_bnd]
  refine okM_congr fun ls ρ2 => ?_
  cases x <;> simp [rvd]
@[simp] theorem okM_lP {f : M (Nat × List Nat)} {g : M (List LA)} {Q : List LA → Rho → Prop} : okM (lP f g ρ) Q ↔ okM (f ρ) fun r ρ1 => okM (g ρ1) fun ls ρ2 => Q (.p r :: ls) ρ2 := by
  unfold lP
  simp only [okM_bnd, okM_ret]
@[simp] theorem okM_dtNil {Q : List (Key × Tr) → Rho → Prop} : okM (dtNil ρ) Q ↔ Q [] ρ := okM_ok
@[simp] theorem okM_dtCons {k : Key} {f : M Tr} {g : M (List (Key × Tr))} {Q : List (Key × Tr) → Rho → Prop} : okM (dtCons k f g ρ) Q ↔ okM (f ρ) fun t ρ1 => okM (g ρ1) fun ts ρ2 => Q ((k, t) :: ts) ρ2 := by
  unfold dtCons
  simp only [okM_bnd, okM_ret]
@[simp] theorem okM_disp {f : M (List (Key × Tr))} {Q : Tr → Rho → Prop} : okM (nDisp f ρ) Q ↔ okM (f ρ) fun kts ρ1 => (kts.length ≤ 15 ∧ (kts.map (·.1)).Nodup) ∧ Q (.dk kts) ρ1 := by
  unfold nDisp
  rw [okM_bnd]
  refine okM_congr fun kts ρ1 => ?_
  by_cases h : kts.length ≤ 15 ∧ (kts.map (·.1)).Nodup
  · rw [if_pos (by simpa using h)]; simp [h]
  · rw [if_neg (by simpa using h)]
    simp only [okM_none, false_iff]
    exact fun z => h z.1
end
end VL

end

section
set_option Elab.async false
set_option linter.all false
set_option maxRecDepth 100000
namespace VR
open PySem PySem.Spec PyProof.Rows L2 VL
noncomputable def cvS (i : Nat) (ρ : Rho) : Option Sl → Option (Er Rv)
  | some (.val d) => some (.ok (.d d) ρ)
  | some (.own _ (.dat d)) => some (.ok (.d d) ρ)
  | some (.own _ _) => some (.ok (.o i) ρ)
  | _ => none
theorem ap_cVar {i : Nat} {ρ : Rho} : cVar i ρ = cvS i ρ ρ[i]? := rfl
section
variable {i : Nat} {ρ : Rho} {m : Md}
theorem cv_val {d : PyData} : cvS i ρ (some (.val d)) = some (.ok (.d d) ρ) := rfl
theorem cv_dat {d : PyData} : cvS i ρ (some (.own m (.dat d))) = some (.ok (.d d) ρ) := rfl
theorem cv_tup {ts : List Tr} : cvS i ρ (some (.own m (.tup ts))) = some (.ok (.o i) ρ) := rfl
theorem cv_lst {ts : List Tr} : cvS i ρ (some (.own m (.lst ts))) = some (.ok (.o i) ρ) := rfl
theorem cv_dk {ts : List (Key × Tr)} : cvS i ρ (some (.own m (.dk ts))) = some (.ok (.o i) ρ) := rfl
end
theorem mrg1_val {d : PyData} {o : Option Sl} : mrg1 (.val d) o = .val d := by cases o <;> rfl
theorem mrg1_own {m m' : Md} {t t' : Tr} : mrg1 (.own m t) (some (.own m' t')) = .own m'.unb t' := rfl
theorem mrg_nil {os : List Sl} : mrg [] os = [] := rfl
theorem mrg_cons {a : Sl} {as os : List Sl} : mrg (a :: as) os = mrg1 a os.head? :: mrg as os.tail := rfl
theorem wb_ds (ds : List PyData) {ρ : Rho} {os : List Sl} : wb ρ (ds.map .d) os = ρ := by
  refine List.ext_getElem? fun j => ?_
  rw [wb_get, pure_2]
  cases ρ[j]? <;> rfl
section
variable {ρ : Rho} {os : List Sl} {a b c d e f : PyData}
theorem wb_d0 : wb ρ [] os = ρ := wb_ds []
theorem wb_d1 : wb ρ [.d a] os = ρ := wb_ds [a]
theorem wb_d2 : wb ρ [.d a, .d b] os = ρ := wb_ds [a, b]
theorem wb_d3 : wb ρ [.d a, .d b, .d c] os = ρ := wb_ds [a, b, c]
theorem wb_d4 : wb ρ [.d a, .d b, .d c, .d d] os = ρ := wb_ds [a, b, c, d]
theorem wb_d5 : wb ρ [.d a, .d b, .d c, .d d, .d e] os = ρ := wb_ds [a, b, c, d, e]
end
theorem backOk_nil {os : List Sl} : backOk [] os = true := by cases os <;> rfl
theorem backOk_val {d : PyData} {s : Sl} {as os : List Sl} : backOk (.val d :: as) (s :: os) = backOk as os := rfl
theorem backOk_own {m m' : Md} {t t' : Tr} {as os : List Sl} : backOk (.own m t :: as) (.own m' t' :: os) = backOk as os := rfl
theorem der_d {ρ : Rho} {d : PyData} : der ρ (.d d) = some d := rfl
theorem derS_d {ρ : Rho} {d : PyData} : derS ρ (.d d) = some d := rfl
theorem argSl_d {ρ : Rho} {d : PyData} : argSl ρ (.d d) = some (.val d) := rfl
theorem kd_str {w : Str} : keyD (.str w) = some (.inr w) := rfl
theorem kd_int {i : Int} : keyD (.int i) = some (.inl i) := rfl
theorem ixN_nat {m n : Nat} (h : n < m) : ixN m (n : Int) = some n := by
  unfold ixN
  simp
  omega
theorem eqI {a b : Int} : eqD (.int a) (.int b) = some (decide (a = b)) := by
  show (if SeqAt.shaped (.int a) && SeqAt.shaped (.int b) then some (PyData.eqv (.int a) (.int b)) else none) = _
  rw [shaped_int, shaped_int]
  show some (a == b) = _
  congr 1
theorem neI {a b : Int} : neD (.int a) (.int b) = some (!decide (a = b)) := by
  show (if SeqAt.shaped (.int a) && SeqAt.shaped (.int b) then some (!PyData.eqv (.int a) (.int b)) else none) = _
  rw [shaped_int, shaped_int]
  show some (!(a == b)) = _
  congr 2
theorem ltI {a b : Int} : ltD (.int a) (.int b) = some (decide (a < b)) := rfl
theorem leI {a b : Int} : leD (.int a) (.int b) = some (decide (a ≤ b)) := rfl
theorem gtI {a b : Int} : gtD (.int a) (.int b) = some (decide (a > b)) := rfl
theorem geI {a b : Int} : geD (.int a) (.int b) = some (decide (a ≥ b)) := rfl
theorem addI {a b : Int} : addD (.int a) (.int b) = some (.int (a + b)) := rfl
theorem subtI {a b : Int} : subtD (.int a) (.int b) = some (.int (a - b)) := rfl
section
variable {x0 x1 x2 x3 x4 x5 x6 x7 : PyData} {xs : List PyData}
theorem sub0 : subD (.tuple (x0 :: xs)) (.int 0) = some x0 := by
  show atI (x0 :: xs) 0 = _
  unfold atI
  have : ixN (x0 :: xs).length 0 = some 0 := ixN_nat (n := 0) (by simp)
  rw [this]; rfl
theorem sub1 : subD (.tuple (x0 :: x1 :: xs)) (.int 1) = some x1 := by
  show atI (x0 :: x1 :: xs) 1 = _
  unfold atI
  have : ixN (x0 :: x1 :: xs).length 1 = some 1 := ixN_nat (n := 1) (by simp)
  rw [this]; rfl
theorem sub2 : subD (.tuple (x0 :: x1 :: x2 :: xs)) (.int 2) = some x2 := by
  show atI (x0 :: x1 :: x2 :: xs) 2 = _
  unfold atI
  have : ixN (x0 :: x1 :: x2 :: xs).length 2 = some 2 := ixN_nat (n := 2) (by simp)
  rw [this]; rfl
theorem sub3 : subD (.tuple (x0 :: x1 :: x2 :: x3 :: xs)) (.int 3) = some x3 := by
  show atI (x0 :: x1 :: x2 :: x3 :: xs) 3 = _
  unfold atI
  have : ixN (x0 :: x1 :: x2 :: x3 :: xs).length 3 = some 3 := ixN_nat (n := 3) (by simp)
  rw [this]; rfl
theorem sub4 : subD (.tuple (x0 :: x1 :: x2 :: x3 :: x4 :: xs)) (.int 4) = some x4 := by
  show atI (x0 :: x1 :: x2 :: x3 :: x4 :: xs) 4 = _
  unfold atI
  have : ixN (x0 :: x1 :: x2 :: x3 :: x4 :: xs).length 4 = some 4 := ixN_nat (n := 4) (by simp)
  rw [this]; rfl
theorem sub5 : subD (.tuple (x0 :: x1 :: x2 :: x3 :: x4 :: x5 :: xs)) (.int 5) = some x5 := by
  show atI (x0 :: x1 :: x2 :: x3 :: x4 :: x5 :: xs) 5 = _
  unfold atI
  have : ixN (x0 :: x1 :: x2 :: x3 :: x4 :: x5 :: xs).length 5 = some 5 := ixN_nat (n := 5) (by simp)
  rw [this]; rfl
end
theorem sm0 : small 0 = true := small_of (by decide)
theorem sm1 : small 1 = true := small_of (by decide)
theorem sm2 : small 2 = true := small_of (by decide)
theorem sm3 : small 3 = true := small_of (by decide)
theorem sm4 : small 4 = true := small_of (by decide)
theorem sm5 : small 5 = true := small_of (by decide)
theorem sm6 : small 6 = true := small_of (by decide)
theorem sm7 : small 7 = true := small_of (by decide)
theorem sm8 : small 8 = true := small_of (by decide)
theorem sm9 : small 9 = true := small_of (by decide)
theorem pref {p q : List Nat} : p.isPrefixOf (p ++ q) = true := List.isPrefixOf_iff_prefix.mpr ⟨q, rfl⟩
theorem pref0 {p : List Nat} : p.isPrefixOf p = true := List.isPrefixOf_iff_prefix.mpr ⟨[], by simp⟩
theorem toD_d {d : PyData} : Tr.toD (.dat d) = some d := rfl
end VR

end

section
set_option Elab.async false
set_option linter.all false
set_option maxRecDepth 100000
namespace VR
open PySem PySem.Spec PyProof.Rows L2 VL
theorem ap_bnd {α β : Type} {f : M α} {k : α → M β} {ρ : Rho} : bnd f k ρ = (fun ρ => match f ρ with
  | some (.ok a ρ1) => k a ρ1
  | some (.ex c ρ1) => some (.ex c ρ1)
  | none => none) ρ := rfl
theorem ap_ret {α : Type} {a : α} {ρ : Rho} : VL.ret a ρ = (fun ρ => some (.ok a ρ)) ρ := rfl
theorem ap_cD {x : PyData} {ρ : Rho} : cD x ρ = (VL.ret (.d x)) ρ := rfl
theorem ap_cDGet {T2 : List Nat} {f : M (Nat × List Nat)} {fk : M Rv} {ρ : Rho} : cDGet T2 f fk ρ = (bnd f fun r => bnd fk (dGet1 T2 r)) ρ := rfl
theorem ap_dGet1 {T2 : List Nat} {r : Nat × List Nat} {y : Rv} {ρ : Rho} : dGet1 T2 r y ρ = (fun ρ => if T2.contains r.1 then none else match y, treeAt ρ r with
  | .d d, some t => (match dictAt t d with
    | some (some z) => some (.ok (.d z) ρ)
    | _ => none)
  | _, _ => none) ρ := rfl
theorem ap_cBin {g : PyData → PyData → Option PyData} {fa fb : M Rv} {ρ : Rho} : cBin g fa fb ρ = (bnd fa fun x => bnd fb fun y => bin1 g x y) ρ := rfl
theorem ap_bin1 {g : PyData → PyData → Option PyData} {x y : Rv} {ρ : Rho} : bin1 g x y ρ = (fun ρ => match derS ρ x, derS ρ y with
  | some a, some b => (match g a b with
    | some z => some (.ok (.d z) ρ)
    | none => none)
  | _, _ => none) ρ := rfl
theorem ap_cCmp {g : PyData → PyData → Option Bool} {fa fb : M Rv} {ρ : Rho} : cCmp g fa fb ρ = (bnd fa fun x => bnd fb fun y => binD g x y) ρ := rfl
theorem ap_binD {g : PyData → PyData → Option Bool} {x y : Rv} {ρ : Rho} : binD g x y ρ = (fun ρ => match der ρ x, der ρ y with
  | some a, some b => (match g a b with
    | some z => some (.ok z ρ)
    | none => none)
  | _, _ => none) ρ := rfl
theorem ap_cOf {f : M Bool} {ρ : Rho} : cOf f ρ = (bnd f fun b => VL.ret (.d (.bool b))) ρ := rfl
theorem ap_cChain {g g' : PyData → PyData → Option Bool} {fa fb fc : M Rv} {ρ : Rho} : cChain g g' fa fb fc ρ = (bnd fa fun x => bnd fb fun y => bnd (binD g x y) fun k => if k then bnd fc fun z => binD g' y z else VL.ret false) ρ := rfl
theorem ap_cTest {f : M Rv} {ρ : Rho} : cTest f ρ = (bnd f fun x => fun ρ => match asB ρ x with
  | some b => some (.ok b ρ)
  | none => none) ρ := rfl
theorem ap_cNot {f : M Bool} {ρ : Rho} : cNot f ρ = (bnd f fun b => VL.ret (!b)) ρ := rfl
theorem ap_cAnd {f g : M Bool} {ρ : Rho} : cAnd f g ρ = (bnd f fun b => if b then g else VL.ret false) ρ := rfl
theorem ap_cOr {f g : M Bool} {ρ : Rho} : cOr f g ρ = (bnd f fun b => if b then VL.ret true else g) ρ := rfl
theorem ap_cAndV {f : M Rv} {g : M Rv} {ρ : Rho} : cAndV f g ρ = (bnd (cTest f) fun b => if b then g else VL.ret (.d (.bool false))) ρ := rfl
theorem ap_cOrV {f : M Rv} {g : M Rv} {ρ : Rho} : cOrV f g ρ = (bnd (cTest f) fun b => if b then VL.ret (.d (.bool true)) else g) ρ := rfl
theorem ap_cNotV {f : M Rv} {ρ : Rho} : cNotV f ρ = (bnd (cTest f) fun b => VL.ret (.d (.bool (!b)))) ρ := rfl
theorem ap_cIf {α : Type} {c : M Bool} {f g : M α} {ρ : Rho} : cIf c f g ρ = (bnd c fun b => if b then f else g) ρ := rfl
theorem ap_cTup {fs : M (List Rv)} {ρ : Rho} : cTup fs ρ = (bnd fs mkTup) ρ := rfl
theorem ap_mkTup {rs : List Rv} {ρ : Rho} : mkTup rs ρ = (fun ρ => match datas rs with
  | some ds => if small ds.length then some (.ok (.d (.tuple ds)) ρ) else none
  | none => none) ρ := rfl
theorem ap_aNil  {ρ : Rho} : aNil  ρ = (VL.ret []) ρ := rfl
theorem ap_aCons {f : M Rv} {g : M (List Rv)} {ρ : Rho} : aCons f g ρ = (bnd f fun x => bnd g fun xs => VL.ret (x :: xs)) ρ := rfl
theorem ap_nDat {f : M Rv} {ρ : Rho} : nDat f ρ = (bnd f fun x => fun ρ => match x with
  | .d d => some (.ok (.dat d) ρ)
  | .o _ => none) ρ := rfl
theorem ap_nLst {fs : M (List Rv)} {ρ : Rho} : nLst fs ρ = (bnd fs mkLst) ρ := rfl
theorem ap_mkLst {rs : List Rv} {ρ : Rho} : mkLst rs ρ = (fun ρ => match datas rs with
  | some ds => if small ds.length then some (.ok (.lst (ds.map .dat)) ρ) else none
  | none => none) ρ := rfl
theorem ap_cFrz {f : M Tr} {ρ : Rho} : cFrz f ρ = (bnd f fun t => fun ρ => match t.toD with
  | some d => some (.ok (.d d) ρ)
  | none => none) ρ := rfl
theorem ap_cLeaf {f : M (Nat × List Nat)} {ρ : Rho} : cLeaf f ρ = (bnd f fun r => fun ρ => match treeAt ρ r with
  | some (.dat d) => some (.ok (.d d) ρ)
  | _ => none) ρ := rfl
theorem ap_cLenP {f : M (Nat × List Nat)} {ρ : Rho} : cLenP f ρ = (bnd f fun r => fun ρ => match treeAt ρ r with
  | some (.lst ts) => some (.ok (.d (.int ts.length)) ρ)
  | _ => none) ρ := rfl
theorem ap_cCall {g : List PyData → Option PyData} {fs : M (List Rv)} {ρ : Rho} : cCall g fs ρ = (bnd fs (call1 g)) ρ := rfl
theorem ap_call1 {g : List PyData → Option PyData} {rs : List Rv} {ρ : Rho} : call1 g rs ρ = (fun ρ => match derSs ρ rs with
  | some ds => (match g ds with
    | some z => some (.ok (.d z) ρ)
    | none => none)
  | none => none) ρ := rfl
theorem ap_cNeg {f : M Rv} {ρ : Rho} : cNeg f ρ = (bnd f fun x => fun ρ => match x with
  | .d (.int i) => some (.ok (.d (.int (-i))) ρ)
  | _ => none) ρ := rfl
theorem ap_nNew {t : Tr} {ρ : Rho} : nNew t ρ = (VL.ret t) ρ := rfl
theorem ap_nMeth {c m : Str} {Ts : List Nat} {k : Nat} {G : Fn} {i : Nat} {fs : M (List Rv)} {ρ : Rho} : nMeth c m Ts k G i fs ρ = (fun ρ => if isCls c m ρ i then bnd fs (fun xs => callR Ts k G (.o i :: xs)) ρ else none) ρ := rfl
theorem ap_nMethK {c m : Str} {Ts : List Nat} {k : Nat} {G : Fn} {i j : Nat} {fs : M (List Rv)} {ρ : Rho} : nMethK c m Ts k G i j fs ρ = (fun ρ => if isCls c m ρ i then bnd fs (fun xs => callK Ts k G i j (.o i :: xs)) ρ else none) ρ := rfl
theorem ap_callK {Ts : List Nat} {m : Nat} {f : Fn} {i j : Nat} {rs : List Rv} {ρ : Rho} : callK Ts m f i j rs ρ = (fun ρ => match ρ[i]? with
  | some (.own (.bor p) t) => if isAl ρ[j]? then (match callR Ts m f rs (killA ρ i j t) with
    | some (.ok r ρ1) => (match backA ρ1 i p with
      | some ρ2 => some (.ok r ρ2)
      | none => none)
    | some (.ex c ρ1) => (match backA ρ1 i p with
      | some ρ2 => some (.ex c ρ2)
      | none => none)
    | none => none) else none
  | _ => none) ρ := rfl
theorem ap_nCall {Ts : List Nat} {m : Nat} {f : Fn} {fs : M (List Rv)} {ρ : Rho} : nCall Ts m f fs ρ = (bnd fs (callN Ts m f)) ρ := rfl
theorem ap_callN {Ts : List Nat} {m : Nat} {f : Fn} {rs : List Rv} {ρ : Rho} : callN Ts m f rs ρ = (fun ρ => match argSls ρ rs with
  | some args => if decide (rs.length = m) && (oneEach rs && allIn Ts rs) then (match f args with
    | some (.ret t, outs) => if backOk args (mrg args outs) then some (.ok t (wb ρ rs (mrg args outs))) else none
    | _ => none) else none
  | none => none) ρ := rfl
theorem ap_nCallR {Ts : List Nat} {m : Nat} {f : Fn} {fs : M (List Rv)} {ρ : Rho} : nCallR Ts m f fs ρ = (bnd fs (callR Ts m f)) ρ := rfl
theorem ap_callR {Ts : List Nat} {m : Nat} {f : Fn} {rs : List Rv} {ρ : Rho} : callR Ts m f rs ρ = (fun ρ => match argSls ρ rs with
  | some args => if decide (rs.length = m) && (oneEach rs && allIn Ts rs) then (match f args with
    | some (.ret t, outs) => if backOk args (mrg args outs) then some (.ok t (wb ρ rs (mrg args outs))) else none
    | some (.exc c, outs) => if backOk args (mrg args outs) then some (.ex c (wb ρ rs (mrg args outs))) else none
    | none => none) else none
  | none => none) ρ := rfl
theorem ap_cCut {f : M Rv} {fl fh : M (Option Int)} {ρ : Rho} : cCut f fl fh ρ = (bnd f fun x => bnd fl fun lo => bnd fh fun hi => cut1 x lo hi) ρ := rfl
theorem ap_cut1 {x : Rv} {lo hi : Option Int} {ρ : Rho} : cut1 x lo hi ρ = (fun ρ => match derS ρ x with
  | some d => (match cutD d lo hi with
    | some z => some (.ok (.d z) ρ)
    | none => none)
  | none => none) ρ := rfl
theorem ap_oNone  {ρ : Rho} : oNone  ρ = (VL.ret none) ρ := rfl
theorem ap_oSome {f : M Rv} {ρ : Rho} : oSome f ρ = (bnd f fun x => fun ρ => match x with
  | .d (.int i) => some (.ok (some i) ρ)
  | _ => none) ρ := rfl
theorem ap_cTab {tb : List (Str × PyData)} {f : M Rv} {ρ : Rho} : cTab tb f ρ = (bnd f (tabD tb)) ρ := rfl
theorem ap_tabD {tb : List (Str × PyData)} {x : Rv} {ρ : Rho} : tabD tb x ρ = (fun ρ => match x with
  | .d (.str z) => (match tb.lookup z with
    | some d => some (.ok (.d d) ρ)
    | none => none)
  | _ => none) ρ := rfl
theorem ap_cIsi {B : BT} {f : M Rv} {ρ : Rho} : cIsi B f ρ = (bnd f fun x => fun ρ => match der ρ x with
  | some d => (match isiD B d with
    | some b => some (.ok (.d (.bool b)) ρ)
    | none => none)
  | none => none) ρ := rfl
theorem ap_nCallP {G : Fn} {f : M (Nat × List Nat)} {ρ : Rho} : nCallP G f ρ = (bnd f fun r => fun ρ => match treeAt ρ r with
  | some t => (match G [.own .lock t] with
    | some (.ret (.dat d), _) => some (.ok (.dat d) ρ)
    | _ => none)
  | none => none) ρ := rfl
theorem ap_nLend {m : Nat} {f : Fn} {fs : M (List LA)} {ρ : Rho} : nLend m f fs ρ = (bnd fs (callL m f)) ρ := rfl
theorem ap_callL {m : Nat} {f : Fn} {ls : List LA} {ρ : Rho} : callL m f ls ρ = (fun ρ => match lendV ρ ls with
  | some ds => if ds.length = m then (match f (ds.map .val) with
    | some (.ret t, _) => if noLt t then some (.ok t ρ) else none
    | _ => none) else none
  | none => none) ρ := rfl
theorem ap_lP {f : M (Nat × List Nat)} {g : M (List LA)} {ρ : Rho} : lP f g ρ = (bnd f fun r => bnd g fun ls => VL.ret (.p r :: ls)) ρ := rfl
theorem ap_lD {f : M Rv} {g : M (List LA)} {ρ : Rho} : lD f g ρ = (bnd f fun x => bnd g fun ls => fun ρ => match x with
  | .d d => some (.ok (.d d :: ls) ρ)
  | _ => none) ρ := rfl
theorem ap_lNil  {ρ : Rho} : lNil  ρ = (VL.ret []) ρ := rfl
theorem ap_cDIn {neg : Bool} {fk : M Rv} {f : M (Nat × List Nat)} {ρ : Rho} : cDIn neg fk f ρ = (bnd fk fun y => bnd f (dIn1 neg y)) ρ := rfl
theorem ap_dIn1 {neg : Bool} {y : Rv} {r : Nat × List Nat} {ρ : Rho} : dIn1 neg y r ρ = (fun ρ => match y, treeAt ρ r with
  | .d d, some t => (match dictAt t d with
    | some z => some (.ok (if neg then !z.isSome else z.isSome) ρ)
    | none => none)
  | _, _ => none) ρ := rfl
theorem ap_cEmp {f : M (Nat × List Nat)} {g : M Tr} {ρ : Rho} : cEmp f g ρ = (bnd f fun r => bnd g fun tn => fun ρ => match treeAt ρ r, tn with
  | some (.lst ts), .lst [] => some (.ok ts.isEmpty ρ)
  | _, _ => none) ρ := rfl
theorem ap_cCmpP {g : PyData → PyData → Option Bool} {T2 : List Nat} {fa : M Rv} {f : M (Nat × List Nat)} {ρ : Rho} : cCmpP g T2 fa f ρ = (bnd fa fun x => bnd f fun r => fun ρ => match der ρ x, (treeAt ρ r).bind Tr.toD with
  | some a, some b => (match g a b with
    | some z => some (.ok z ρ)
    | none => none)
  | _, _ => none) ρ := rfl
theorem ap_nDisp (fs : M (List (Key × Tr))) {ρ : Rho} : nDisp fs ρ = (bnd fs fun kts => fun ρ => if decide (kts.length ≤ 15) && decide ((kts.map (·.1)).Nodup) then some (.ok (.dk kts) ρ) else none) ρ := rfl
theorem ap_dtCons {k : Key} {f : M Tr} (g : M (List (Key × Tr))) {ρ : Rho} : dtCons k f g ρ = (bnd f fun t => bnd g fun kts => VL.ret ((k, t) :: kts)) ρ := rfl
theorem ap_dtNil  {ρ : Rho} : dtNil  ρ = (VL.ret []) ρ := rfl
theorem ap_nDictC {f : M (Nat × List Nat)} {ρ : Rho} : nDictC f ρ = (bnd f fun r => fun ρ => match treeAt ρ r with
  | some (.dk kvs) => (match dats kvs with
    | some ds => some (.ok (.dk (toT ds)) ρ)
    | none => none)
  | _ => none) ρ := rfl
theorem ap_nDictS {f : M (Nat × List Nat)} {ρ : Rho} : nDictS f ρ = (bnd f fun r => fun ρ => match treeAt ρ r with
  | some (.sd ds) => some (.ok (.dk (toT ds)) ρ)
  | _ => none) ρ := rfl
theorem ap_nListC {f : M (Nat × List Nat)} {ρ : Rho} : nListC f ρ = (bnd f fun r => fun ρ => match treeAt ρ r with
  | some (.lst ts) => (match flat ts with
    | some ds => some (.ok (.lst (ds.map .dat)) ρ)
    | none => none)
  | _ => none) ρ := rfl
theorem ap_nCopyDs {v : Nat} {f : M (Nat × List Nat)} {ρ : Rho} : nCopyDs v f ρ = (bnd f fun r => fun ρ => match treeAt ρ r with
  | some (.lst ts) => (match copies ts with
    | some dss => if decide (v < ρ.length) && small dss.length then some (.ok (.lst (copyT dss)) ρ) else none
    | none => none)
  | _ => none) ρ := rfl
theorem ap_nCopyM {v : Nat} {f : M (Nat × List Nat)} {ρ : Rho} : nCopyM v f ρ = (bnd f fun r => fun ρ => match treeAt ρ r with
  | some (.lst ts) => (match copiesM ts with
    | some dss => if decide (v < ρ.length) && small dss.length then some (.ok (.lst (copyM dss)) ρ) else none
    | none => none)
  | _ => none) ρ := rfl
theorem ap_nCatMv {Ts T2 : List Nat} {f : M (Nat × List Nat)} {g : M Tr} {ρ : Rho} : nCatMv Ts T2 f g ρ = (bnd f fun r => bnd g fun tn => fun ρ => if !T2.contains r.1 && (Ts.contains r.1 && modeOk ρ r.1) then (match treeAt ρ r, tn with
  | some (.lst ts), .lst us => if small (ts.length + us.length) then some (.ok (.lst (ts ++ us)) (VL.putAt ρ r .hole)) else none
  | _, _ => none) else none) ρ := rfl
theorem ap_nLstT {fs : M (List Tr)} {ρ : Rho} : nLstT fs ρ = (bnd fs fun ts => fun ρ => if small ts.length then some (.ok (.lst ts) ρ) else none) ρ := rfl
theorem ap_tConsM {f : M Tr} {g : M (List Tr)} {ρ : Rho} : tConsM f g ρ = (bnd f fun x => bnd g fun xs => VL.ret (x :: xs)) ρ := rfl
theorem ap_tNilM  {ρ : Rho} : tNilM  ρ = (VL.ret []) ρ := rfl
theorem ap_nTupT {fs : M (List Tr)} {ρ : Rho} : nTupT fs ρ = (bnd fs fun ts => fun ρ => if small ts.length && ts.any isNode then some (.ok (.tup ts) ρ) else none) ρ := rfl
theorem ap_nCutMv {Ts T2 : List Nat} {f : M (Nat × List Nat)} {fl fh : M (Option Int)} {ρ : Rho} : nCutMv Ts T2 f fl fh ρ = (bnd f fun r => bnd fl fun lo => bnd fh fun hi => fun ρ => if !T2.contains r.1 && (Ts.contains r.1 && modeOk ρ r.1) then (match treeAt ρ r with
  | some (.lst ts) => some (.ok (.lst (cutL ts lo hi)) (VL.putAt ρ r .hole))
  | _ => none) else none) ρ := rfl
theorem ap_cLk {i : Nat} {f : M Rv} {ρ : Rho} : cLk i f ρ = (fun ρ => match lkS ρ i with
  | some ρ1 => (match f ρ1 with
    | some (.ok (.d d) ρ2) => (match ρ[i]? with
      | some s => some (.ok (.d d) (ρ2.set i s))
      | none => none)
    | _ => none)
  | none => none) ρ := rfl
theorem ap_nMv {i : Nat} {ρ : Rho} : nMv i ρ = (fun ρ => match ρ[i]? with
  | some (.own .free t) => some (.ok t (ρ.set i (.own .free .hole)))
  | _ => none) ρ := rfl
theorem ap_nMvP {Ts : List Nat} {f : M (Nat × List Nat)} {ρ : Rho} : nMvP Ts f ρ = (bnd f fun r => fun ρ => if Ts.contains r.1 && modeOk ρ r.1 then (match treeAt ρ r with
  | some t => some (.ok t (VL.putAt ρ r .hole))
  | none => none) else none) ρ := rfl
theorem ap_pVar {i : Nat} {ρ : Rho} : pVar i ρ = (fun ρ => match ρ[i]? with
  | some (.own _ _) => some (.ok (i, []) ρ)
  | _ => none) ρ := rfl
theorem ap_pKey {T2 : List Nat} {f : M (Nat × List Nat)} {g : M Rv} {ρ : Rho} : pKey T2 f g ρ = (bnd f fun r => bnd g fun y => fun ρ => if T2.contains r.1 then none else match treeAt ρ r, y with
  | some (.dk kvs), .d d => (match keyD d with
    | some k => (match keyIx k kvs with
      | some j => some (.ok (r.1, r.2 ++ [j]) ρ)
      | none => none)
    | none => none)
  | _, _ => none) ρ := rfl
theorem ap_pIx {T2 : List Nat} {f : M (Nat × List Nat)} {g : M Rv} {ρ : Rho} : pIx T2 f g ρ = (bnd f fun r => bnd g fun y => fun ρ => if T2.contains r.1 then none else match treeAt ρ r, y with
  | some (.lst ts), .d (.int n) => (match ixN ts.length n with
    | some j => some (.ok (r.1, r.2 ++ [j]) ρ)
    | none => none)
  | some (.tup ts), .d (.int n) => (match ixN ts.length n with
    | some j => some (.ok (r.1, r.2 ++ [j]) ρ)
    | none => none)
  | _, _ => none) ρ := rfl
theorem ap_pAl {j : Nat} {ρ : Rho} : pAl j ρ = (fun ρ => match ρ[j]? with
  | some (.al i p) => (match ρ[i]? with
    | some (.own (.bor q) _) => if q = p then some (.ok (i, p) ρ) else none
    | _ => none)
  | _ => none) ρ := rfl
theorem ap_pFld {c f : Str} {fo : M (Nat × List Nat)} {ρ : Rho} : pFld c f fo ρ = (bnd fo fun r => fun ρ => match treeAt ρ r with
  | some (.ins c' fs) => if c' = c then (match keyIx f fs with
    | some j => some (.ok (r.1, r.2 ++ [j]) ρ)
    | none => none) else none
  | _ => none) ρ := rfl
theorem ap_iSeq {f : M Rv} {ρ : Rho} : iSeq f ρ = (bnd f fun x => fun ρ => match x with
  | .d d => (match itemsOf d with
    | some xs => some (.ok xs ρ)
    | none => none)
  | .o _ => none) ρ := rfl
theorem ap_nCat {fa fb : M Rv} {ρ : Rho} : nCat fa fb ρ = (bnd fa fun x => bnd fb fun y => cat1 x y) ρ := rfl
theorem ap_sSeq {g h : MS} {ρ : Rho} : sSeq g h ρ = (fun ρ => match g ρ with
  | some (.nx ρ1) => h ρ1
  | o => o) ρ := rfl
theorem ap_sE {α : Type} {f : M α} {k : α → MS} {ρ : Rho} : sE f k ρ = (fun ρ => match f ρ with
  | some (.ok a ρ1) => k a ρ1
  | some (.ex c ρ1) => some (.ex c ρ1)
  | none => none) ρ := rfl
theorem ap_sIf {c : M Bool} {g h : MS} {ρ : Rho} : sIf c g h ρ = (sE c fun b => if b then g else h) ρ := rfl
theorem ap_sSet {i : Nat} {f : M Rv} {ρ : Rho} : sSet i f ρ = (sE f fun x => match x with
  | .d d => putD i d
  | .o _ => fun _ => none) ρ := rfl
theorem ap_sSetN {i : Nat} {f : M Tr} {ρ : Rho} : sSetN i f ρ = (sE f fun t => fun ρ => (setSl ρ i (.own .free t)).map .nx) ρ := rfl
theorem ap_putD {i : Nat} {d : PyData} {ρ : Rho} : putD i d ρ = (fun ρ => (setSl ρ i (.val d)).map .nx) ρ := rfl
theorem ap_sAsg {G : MG} {f : M Rv} {ρ : Rho} : sAsg G f ρ = (sE f fun x => fun ρ => match x with
  | .d d => (G d ρ).map .nx
  | .o _ => none) ρ := rfl
theorem ap_gT {n : Nat} {Gs : MGs} {zd : PyData} {ρ : Rho} : gT n Gs zd ρ = (fun d ρ => match d with
  | .tuple ds => if ds.length = n then Gs ds ρ else none
  | _ => none) zd ρ := rfl
theorem ap_gsC {G : MG} {Gs : MGs} {zd : List PyData} {ρ : Rho} : gsC G Gs zd ρ = (fun ds ρ => match ds with
  | d :: r => (match G d ρ with
    | some ρ1 => Gs r ρ1
    | none => none)
  | [] => none) zd ρ := rfl
theorem ap_gsN  {zd : List PyData} {ρ : Rho} : gsN  zd ρ = (fun ds ρ => match ds with
  | [] => some ρ
  | _ => none) zd ρ := rfl
theorem ap_gN {i : Nat} {zd : PyData} {ρ : Rho} : gN i zd ρ = (fun d ρ => setSl ρ i (.val d)) zd ρ := rfl
theorem ap_sDrop {f : M Rv} {ρ : Rho} : sDrop f ρ = (sE f fun _ => sNil) ρ := rfl
theorem ap_sNil  {ρ : Rho} : sNil  ρ = (fun ρ => some (.nx ρ)) ρ := rfl
theorem ap_sRet {f : M Tr} {ρ : Rho} : sRet f ρ = (sE f fun t => fun ρ => some (.rt t ρ)) ρ := rfl
theorem ap_sRetN  {ρ : Rho} : sRetN  ρ = (fun ρ => some (.rt (.dat .none) ρ)) ρ := rfl
theorem ap_sRetV {i : Nat} {ρ : Rho} : sRetV i ρ = (fun ρ => match ρ[i]? with
  | some (.val d) => some (.rt (.dat d) ρ)
  | some (.own .free t) => some (.rt t (ρ.set i .no))
  | _ => none) ρ := rfl
theorem ap_sRaise {c : Str} {ρ : Rho} : sRaise c ρ = (fun ρ => some (.ex c ρ)) ρ := rfl
theorem ap_sAl {j : Nat} {f : M (Nat × List Nat)} {ρ : Rho} : sAl j f ρ = (sE f fun r => fun ρ => (mkAl j r ρ).map .nx) ρ := rfl
theorem ap_sEd {i : Nat} {g : MS} {ρ : Rho} : sEd i g ρ = (fun ρ => g (unbor ρ i)) ρ := rfl
theorem ap_sKeyT {T2 : List Nat} {g : M Tr} {f : M (Nat × List Nat)} {fk : M Rv} {ρ : Rho} : sKeyT T2 g f fk ρ = (sE g fun tn => sE f fun r => sE fk (keyT1 T2 tn r)) ρ := rfl
theorem ap_keyT1 {T2 : List Nat} {tn : Tr} {r : Nat × List Nat} {y : Rv} {ρ : Rho} : keyT1 T2 tn r y ρ = (fun ρ => if T2.contains r.1 || !modeA ρ r then none else match y, treeAt ρ r with
  | .d kd, some (.dk kts) => (match keyD kd with
    | some k => if small (kts.length + 1) && decide ((kts.map (·.1)).Nodup) then some (.nx (VL.putAt ρ r (.dk (putR k tn kts)))) else none
    | none => none)
  | _, _ => none) ρ := rfl
theorem ap_sDPut {T2 : List Nat} {fe : M Rv} {f : M (Nat × List Nat)} {fk : M Rv} {ρ : Rho} : VL.sDPut T2 fe f fk ρ = (sE fe fun x => match x with
  | .d d => sE f fun r => sE fk (dPut1 T2 d r)
  | .o _ => fun _ => none) ρ := rfl
theorem ap_dPut1 {T2 : List Nat} {d : PyData} {r : Nat × List Nat} {y : Rv} {ρ : Rho} : dPut1 T2 d r y ρ = (fun ρ => if T2.contains r.1 || !modeOk ρ r.1 then none else match y, treeAt ρ r with
  | .d kd, some (.dk kvs) => (match keyD kd, dats kvs with
    | some k, some ds => if small (ds.length + 1) then some (.nx (VL.putAt ρ r (.dk (toT (putP ds k d))))) else none
    | _, _ => none)
  | .d kd, some (.dt kvs) => (match keyT kd, dats kvs with
    | some k, some ds => if small (ds.length + 1) then some (.nx (VL.putAt ρ r (.dt (toT (putP ds k d))))) else none
    | _, _ => none)
  | _, _ => none) ρ := rfl
theorem ap_sDPutA {T2 : List Nat} {fe : M Rv} {f : M (Nat × List Nat)} {fk : M Rv} {ρ : Rho} : sDPutA T2 fe f fk ρ = (sE fe fun x => match x with
  | .d d => sE f fun r => sE fk (dPutA1 T2 d r)
  | .o _ => fun _ => none) ρ := rfl
theorem ap_dPutA1 {T2 : List Nat} {d : PyData} {r : Nat × List Nat} {y : Rv} {ρ : Rho} : dPutA1 T2 d r y ρ = (fun ρ => if T2.contains r.1 || !modeA ρ r then none else match y, treeAt ρ r with
  | .d kd, some (.dk kvs) => (match keyD kd, dats kvs with
    | some k, some ds => if small (ds.length + 1) then some (.nx (VL.putAt ρ r (.dk (toT (putP ds k d))))) else none
    | _, _ => none)
  | _, _ => none) ρ := rfl
theorem ap_sApp {T2 : List Nat} {f : M (Nat × List Nat)} {g : M Tr} {ρ : Rho} : sApp T2 f g ρ = (sE f fun r => fun ρ => if isLst (treeAt ρ r) then sE g (app1 T2 r) ρ else none) ρ := rfl
theorem ap_app1 {T2 : List Nat} {r : Nat × List Nat} {tn : Tr} {ρ : Rho} : app1 T2 r tn ρ = (fun ρ => if T2.contains r.1 || !modeOk ρ r.1 then none else match treeAt ρ r with
  | some (.lst ts) => if small (ts.length + 1) then some (.nx (VL.putAt ρ r (.lst (ts ++ [tn])))) else none
  | _ => none) ρ := rfl
theorem ap_sFldT {c f : Str} {g : M Tr} {fo : M (Nat × List Nat)} {ρ : Rho} : sFldT c f g fo ρ = (sE g fun t => sE fo (fld1 c f [] t)) ρ := rfl
theorem ap_fld1 {c f : Str} {T2 : List Nat} {tn : Tr} {r : Nat × List Nat} {ρ : Rho} : fld1 c f T2 tn r ρ = (fun ρ => if !modeOk ρ r.1 then none else match treeAt ρ r with
  | some (.ins c' fs) => if c' = c ∧ fs.length < 1000 then some (.nx (VL.putAt ρ r (.ins c (putFT f tn fs)))) else none
  | _ => none) ρ := rfl
theorem ap_sPar {i j : Nat} {fs : M (List Rv)} {ρ : Rho} : sPar i j fs ρ = (sE fs fun rs => fun ρ => match rs with
  | [.d a, .d b] => (match setSl ρ i (.val a) with
    | some ρ1 => (setSl ρ1 j (.val b)).map .nx
    | none => none)
  | _ => none) ρ := rfl
theorem ap_sTryK {cs : List Str} {j k : Nat} {g : MS} {ρ : Rho} : sTryK cs j k g ρ = (fun ρ => match g ρ with
  | some (.ex c ρ1) => if c ∈ cs ∧ isNo ρ1[j]? = true then (match setSl ρ1 k (.val (.str (c ++ plusS))) with
    | some ρ2 => if isNo ρ2[j]? then some (.nx ρ2) else none
    | none => none) else none
  | o => o) ρ := rfl
theorem ap_sUpd {T2 : List Nat} {f : M (Nat × List Nat)} {g : M Tr} {ρ : Rho} : sUpd T2 f g ρ = (sE f fun r => fun ρ => if isDkk (treeAt ρ r) then sE g (upd1 T2 r) ρ else none) ρ := rfl
theorem ap_upd1 {T2 : List Nat} {r : Nat × List Nat} {tn : Tr} {ρ : Rho} : upd1 T2 r tn ρ = (fun ρ => if T2.contains r.1 || !modeOk ρ r.1 then none else match treeAt ρ r, tn with
  | some (.dk kts), .dk us => if small (kts.length + us.length) && decide ((kts.map (·.1)).Nodup) then some (.nx (VL.putAt ρ r (.dk (mergeR kts us)))) else none
  | _, _ => none) ρ := rfl
theorem ap_sPopK {T2 : List Nat} {f : M (Nat × List Nat)} {fk : M Rv} {ρ : Rho} : sPopK T2 f fk ρ = (sE f fun r => fun ρ => if isDk (treeAt ρ r) then sE fk (popK1 T2 r) ρ else none) ρ := rfl
theorem ap_popK1 {T2 : List Nat} {r : Nat × List Nat} {y : Rv} {ρ : Rho} : popK1 T2 r y ρ = (fun ρ => if T2.contains r.1 || !modeOk ρ r.1 then none else match y, treeAt ρ r with
  | .d kd, some (.dk kvs) => (match keyD kd, dats kvs with
    | some k, some ds => if (ds.any fun kv => decide (kv.1 = k)) then some (.nx (VL.putAt ρ r (.dk (toT (ds.filter fun kv => decide (kv.1 ≠ k)))))) else none
    | _, _ => none)
  | _, _ => none) ρ := rfl
theorem ap_sFzP {f : M (Nat × List Nat)} {g : MS} {ρ : Rho} : sFzP f g ρ = (fun ρ => match f ρ with
  | some (.ok r _) => (match fzP ρ r with
    | some ρ1 => g ρ1
    | none => none)
  | _ => none) ρ := rfl
theorem ap_sUnp {i j : Nat} {f : M Tr} {ρ : Rho} : sUnp i j f ρ = (sE f fun t => fun ρ => match t with
  | .tup [t1, t2] => (match setSl ρ i (asSl t1) with
    | some ρ1 => (setSl ρ1 j (asSl t2)).map .nx
    | none => none)
  | _ => none) ρ := rfl
theorem ap_sFor {fi : M (List PyData)} {G : MG} {body : MS} {ρ : Rho} : sFor fi G body ρ = (sE fi fun xs => loopF G body xs) ρ := rfl
theorem ap_sSetIx {T2 : List Nat} {fe : M Rv} {f : M (Nat × List Nat)} {fi : M Rv} {ρ : Rho} : sSetIx T2 fe f fi ρ = (sE fe fun x => match x with
  | .d d => sE f fun r => sE fi (setIx1 T2 d r)
  | .o _ => fun _ => none) ρ := rfl
end VR

end

section
set_option Elab.async false
set_option linter.all false
set_option maxRecDepth 100000
namespace SP
open PySem PySem.Spec PyProof.Rows L2 VL SM
structure St where
  mo : Int
  op : Bool
  off : Int
  held : List (Key × PyData)
  made : List (List (Key × PyData))
  up : List PyData
  dealt : List PyData
noncomputable def numD (x : St) : PyData := .tuple [.int x.mo, .bool x.op, .int x.off]
noncomputable def stT (x : St) : Tr := .tup [.dat (numD x), .dk (toT x.held), .lst (copyT x.made), .lst (x.up.map .dat), .lst (x.dealt.map .dat)]
noncomputable def pastT (p : List (St × PyData)) : List Tr := p.map fun q => .tup [stT q.1, .dat q.2]
noncomputable def hFs (z s : Tr) (mo op off held made up dealt past : Tr) : List (Str × Tr) := [(s_size, z), (s_start, s), (s_moment, mo), (s_opened, op), (s_offered, off), (s_held, held), (s_made, made), (s_put_up, up), (s_dealt, dealt), (s_past, past)]
noncomputable def hT (z s mo op off held made up dealt past : Tr) : Tr := .ins s_Hall (hFs z s mo op off held made up dealt past)
noncomputable def hallT (z s : Int) (x : St) (p : List (St × PyData)) : Tr := hT (.dat (.int z)) (.dat (.int s)) (.dat (.int x.mo)) (.dat (.bool x.op)) (.dat (.int x.off)) (.dk (toT x.held)) (.lst (copyT x.made)) (.lst (x.up.map .dat)) (.lst (x.dealt.map .dat)) (.lst (pastT p))
section
variable {z s : Int} {x : St} {p : List (St × PyData)}
@[simp] theorem kids_hallT : kids (hallT z s x p) = [.dat (.int z), .dat (.int s), .dat (.int x.mo), .dat (.bool x.op), .dat (.int x.off), .dk (toT x.held), .lst (copyT x.made), .lst (x.up.map .dat), .lst (x.dealt.map .dat), .lst (pastT p)] := rfl
@[simp] theorem put_held {y : List (Key × PyData)} : (hallT z s x p).put [5] (.dk (toT y)) = hallT z s { x with held := y } p := rfl
@[simp] theorem put_made {y : List (List (Key × PyData))} : (hallT z s x p).put [6] (.lst (copyT y)) = hallT z s { x with made := y } p := rfl
@[simp] theorem put_past {q : List (St × PyData)} : (hallT z s x p).put [9] (.lst (pastT q)) = hallT z s x q := rfl
end
section
variable {z s mo op off held made up dealt past t : Tr}
theorem ix_size : fldIx s_Hall s_size (some (hT z s mo op off held made up dealt past)) = some 0 := by kernel_rfl
theorem ix_start : fldIx s_Hall s_start (some (hT z s mo op off held made up dealt past)) = some 1 := by kernel_rfl
theorem ix_moment : fldIx s_Hall s_moment (some (hT z s mo op off held made up dealt past)) = some 2 := by kernel_rfl
theorem ix_opened : fldIx s_Hall s_opened (some (hT z s mo op off held made up dealt past)) = some 3 := by kernel_rfl
theorem ix_offered : fldIx s_Hall s_offered (some (hT z s mo op off held made up dealt past)) = some 4 := by kernel_rfl
theorem ix_held : fldIx s_Hall s_held (some (hT z s mo op off held made up dealt past)) = some 5 := by kernel_rfl
theorem ix_made : fldIx s_Hall s_made (some (hT z s mo op off held made up dealt past)) = some 6 := by kernel_rfl
theorem ix_put_up : fldIx s_Hall s_put_up (some (hT z s mo op off held made up dealt past)) = some 7 := by kernel_rfl
theorem ix_dealt : fldIx s_Hall s_dealt (some (hT z s mo op off held made up dealt past)) = some 8 := by kernel_rfl
theorem ix_past : fldIx s_Hall s_past (some (hT z s mo op off held made up dealt past)) = some 9 := by kernel_rfl
end
@[simp] theorem jx_size {z s : Int} {x : St} {p : List (St × PyData)} : fldIx s_Hall s_size (some (hallT z s x p)) = some 0 := ix_size
@[simp] theorem jx_start {z s : Int} {x : St} {p : List (St × PyData)} : fldIx s_Hall s_start (some (hallT z s x p)) = some 1 := ix_start
@[simp] theorem jx_moment {z s : Int} {x : St} {p : List (St × PyData)} : fldIx s_Hall s_moment (some (hallT z s x p)) = some 2 := ix_moment
@[simp] theorem jx_opened {z s : Int} {x : St} {p : List (St × PyData)} : fldIx s_Hall s_opened (some (hallT z s x p)) = some 3 := ix_opened
@[simp] theorem jx_offered {z s : Int} {x : St} {p : List (St × PyData)} : fldIx s_Hall s_offered (some (hallT z s x p)) = some 4 := ix_offered
@[simp] theorem jx_held {z s : Int} {x : St} {p : List (St × PyData)} : fldIx s_Hall s_held (some (hallT z s x p)) = some 5 := ix_held
@[simp] theorem jx_made {z s : Int} {x : St} {p : List (St × PyData)} : fldIx s_Hall s_made (some (hallT z s x p)) = some 6 := ix_made
@[simp] theorem jx_put_up {z s : Int} {x : St} {p : List (St × PyData)} : fldIx s_Hall s_put_up (some (hallT z s x p)) = some 7 := ix_put_up
@[simp] theorem jx_dealt {z s : Int} {x : St} {p : List (St × PyData)} : fldIx s_Hall s_dealt (some (hallT z s x p)) = some 8 := ix_dealt
@[simp] theorem jx_past {z s : Int} {x : St} {p : List (St × PyData)} : fldIx s_Hall s_past (some (hallT z s x p)) = some 9 := ix_past
section
variable {z s mo op off held made up dealt past t : Tr}
end
end SP

end

section
set_option Elab.async false
set_option linter.all false
set_option maxRecDepth 100000
namespace SP
open PySem PySem.Spec PyProof.Rows L2 VL SM
noncomputable def st0 : St := ⟨0, true, 0, [], [], [], []⟩
section
variable {z s : Int} {x : St} {p : List (St × PyData)} {m : Md}
end
end SP

end

section
set_option Elab.async false
set_option linter.all false
set_option maxRecDepth 100000
namespace SP
open PySem PySem.Spec PyProof.Rows L2 VL SM
section
variable {z s : Int} {x y : St} {p q : List (St × PyData)} {m m2 : Md}
structure Of where
  n : Int
  mem : Int
  a : Str
  b : Int
  c : Int
  d : Str
  pr : Int
  lf : Int
noncomputable def Of.sg (o : Of) : PyData := .tuple [.str o.a, .int o.b, .int o.c, .str o.d]
noncomputable def Of.v (o : Of) : PyData := .tuple [.int o.mem, o.sg, .int o.pr, .int o.lf]
noncomputable def Of.kv (o : Of) : Key × PyData := (.inl o.n, o.v)
end
end SP

end

section
set_option Elab.async false
set_option linter.all false
set_option maxRecDepth 100000
namespace SP
open PySem PySem.Spec PyProof.Rows L2 VL SM
section
variable {z s : Int} {x y : St} {p q : List (St × PyData)} {m m2 : Md} {os : List Of}
@[simp] theorem lk_ix {t : Tr} : fldIx s_Hall s_held (some (setKid (hallT z s x p) 5 t)) = some 5 := by kernel_rfl
@[simp] theorem lk_kids {t : Tr} : kids (setKid (hallT z s x p) 5 t) = [.dat (.int z), .dat (.int s), .dat (.int x.mo), .dat (.bool x.op), .dat (.int x.off), t, .lst (copyT x.made), .lst (x.up.map .dat), .lst (x.dealt.map .dat), .lst (pastT p)] := rfl
noncomputable def PalmS (a : Str) : Prop := a = sIn ∨ a = sOut
noncomputable def mine (i : Int) (a : Str) (o : Of) : Bool := decide (o.mem = i) && decide (o.a = a)
end
end SP

end

section
set_option Elab.async false
set_option linter.all false
set_option maxRecDepth 100000
namespace SH
open PySem PySem.Spec PyProof.Rows L2 VL SM SP
structure Bg where
  a : Int
  b : Int
  sg : PyData
  lk : PyData
  sw : PyData
  se : PyData
  u1 : Bool
  u2 : Bool
  p1 : Int
  c1 : Int
  p2 : Int
  c2 : Int
  mo : Int
  inn : List Int
  wd : Str
  cl : Int
  ch : List (Int × Int × Int)
  co : List (Int × Int × Int)
noncomputable def sdS (u : Bool) : Str := if u then sBought else sSold
noncomputable def Bg.mine (g : Bg) : PyData := .tuple [.int g.a, .int g.b, .str (sdS g.u1), .int g.p1, .int g.c1, .int g.mo]
noncomputable def Bg.their (g : Bg) : PyData := .tuple [.int g.b, .int g.a, .str (sdS g.u2), .int g.p2, .int g.c2, .int g.mo]
noncomputable def csD (r : Int × Int × Int) : PyData := .tuple [.int r.1, .int r.2.1, .int r.2.2]
noncomputable def coK (r : Int × Int × Int) : Key × PyData := (.inl r.1, .tuple [.int r.2.1, .int r.2.2])
noncomputable def Bg.hd (g : Bg) : List (Key × PyData) := [(.inr s_two, .tuple [.int g.a, .int g.b]), (.inr s_signs, .tuple [g.sg, g.lk, g.sw, g.se]), (.inr s_cards, .tuple [g.mine, g.their]), (.inr sIn, .tuple (g.inn.map .int)), (.inr s_word, .str g.wd), (.inr s_called, .int g.cl), (.inr s_consents, .tuple (g.ch.map csD))]
noncomputable def Bg.od (g : Bg) : List (Key × Tr) := [(.inr s_signs, .dat (.tuple [g.sg, g.lk, g.sw, g.se])), (.inr s_cards, .dat (.tuple [g.mine, g.their])), (.inr sIn, .dat (.tuple (g.inn.map .int))), (.inr s_end, .dat (.str g.wd)), (.inr s_called, .dat (.int g.cl)), (.inr s_consents, .sd (g.co.map coK))]
structure S where
  mo : Int
  op : Bool
  off : Int
  held : List Of
  made : List Bg
  up : List PyData
  dl : List PyData
noncomputable def S.st (x : S) : SP.St := ⟨x.mo, x.op, x.off, x.held.map Of.kv, x.made.map Bg.hd, x.up, x.dl⟩
noncomputable abbrev Past := List (S × PyData)
noncomputable def HT (z s : Int) (x : S) (p : Past) : Tr := hallT z s x.st (p.map fun q => (q.1.st, q.2))
section
variable {z s : Int} {x : S} {p : Past} {rest : Rho} {md : Md} {n : Nat} {g : Bg}
end
end SH

end

section
set_option Elab.async false
set_option linter.all false
set_option maxRecDepth 100000
open PySem PySem.Spec PyProof.Rows L2 VL
theorem VR.c_List_map_cons : type_of% @List.map_cons.{0, 0} := by intros; rfl
theorem VR.c_List_map_nil : type_of% @List.map_nil.{0, 0} := by intros; rfl
theorem VR.c_List_length_cons : type_of% @List.length_cons.{0} := by intros; rfl
theorem VR.c_List_length_nil : type_of% @List.length_nil.{0} := by intros; rfl
theorem VR.c_List_cons_append : type_of% @List.cons_append.{0} := by intros; rfl
theorem VR.c_List_nil_append : type_of% @List.nil_append.{0} := by intros; rfl
theorem VR.c_List_getElem_cons_zero : type_of% @List.getElem?_cons_zero.{0} := by intros; rfl
theorem VR.c_List_getElem_cons_succ : type_of% @List.getElem?_cons_succ.{0} := by intros; rfl
theorem VR.c_List_set_cons_zero : type_of% @List.set_cons_zero.{0} := by intros; rfl
theorem VR.c_List_set_cons_succ : type_of% @List.set_cons_succ.{0} := by intros; rfl
theorem VR.c_List_take_succ_cons : type_of% @List.take_succ_cons.{0} := by intros; rfl
theorem VR.c_List_take_zero : type_of% @List.take_zero.{0} := by intros; rfl
theorem VR.c_List_contains_nil : type_of% @List.contains_nil.{0} := @List.contains_nil.{0}
theorem VR.c_Bool_false_or : type_of% @Bool.false_or := by intros; rfl
theorem VR.c_Bool_or_false : type_of% @Bool.or_false := @Bool.or_false
theorem VR.c_Bool_not_true : type_of% @Bool.not_true := by intros; rfl
theorem VR.c_Bool_not_false : type_of% @Bool.not_false := by intros; rfl
theorem VR.c_Bool_false_eq_true : type_of% @Bool.false_eq_true := @Bool.false_eq_true
theorem VR.c_Bool_and_self : type_of% @Bool.and_self := @Bool.and_self
theorem VR.c_Bool_and_true : type_of% @Bool.and_true := @Bool.and_true
theorem VR.c_Bool_true_and : type_of% @Bool.true_and := by intros; rfl
theorem VR.c_Bool_or_self : type_of% @Bool.or_self := @Bool.or_self
theorem VR.c_Bool_and_false : type_of% @Bool.and_false := @Bool.and_false
theorem VR.c_Bool_false_and : type_of% @Bool.false_and := by intros; rfl
theorem VR.c_Bool_or_true : type_of% @Bool.or_true := @Bool.or_true
theorem VR.c_Bool_true_or : type_of% @Bool.true_or := by intros; rfl
theorem VR.c_if_true : type_of% @if_true.{1} := @if_true.{1}
theorem VR.c_if_false : type_of% @if_false.{1} := @if_false.{1}
theorem VR.c_ne_eq : type_of% @ne_eq.{1} := @ne_eq.{1}
theorem VR.c_not_false_eq_true : type_of% @not_false_eq_true := @not_false_eq_true
theorem VR.c_not_true_eq_false : type_of% @not_true_eq_false := @not_true_eq_false
theorem VR.c_decide_true : type_of% @decide_true := @decide_true
theorem VR.c_decide_false : type_of% @decide_false := @decide_false
theorem VR.c_Option_map_some : type_of% @Option.map_some.{0, 0} := by intros; rfl
theorem VR.c_Option_map_none : type_of% @Option.map_none.{0, 0} := by intros; rfl
theorem VR.c_List_head_cons : type_of% @List.head?_cons.{0} := by intros; rfl
theorem VR.c_List_tail_cons : type_of% @List.tail_cons.{0} := by intros; rfl
theorem VR.c_List_all_cons : type_of% @List.all_cons.{0} := @List.all_cons.{0}
theorem VR.c_List_all_nil : type_of% @List.all_nil.{0} := by intros; rfl
theorem VR.c_Option_isNone_none : type_of% @Option.isNone_none.{0} := by intros; rfl
theorem VR.c_Option_isSome_none : type_of% @Option.isSome_none.{0} := by intros; rfl
theorem VR.c_Option_isSome_some : type_of% @Option.isSome_some.{0} := by intros; rfl
theorem VR.c_Option_isNone_some : type_of% @Option.isNone_some.{0} := by intros; rfl
theorem VR.c_List_contains_cons : type_of% @List.contains_cons.{0} := @List.contains_cons.{0}
theorem VR.c_beq_self_eq_true : type_of% @beq_self_eq_true.{0} := @beq_self_eq_true.{0}
theorem VR.c_eq_self : type_of% @eq_self.{1} := @eq_self.{1}
theorem VR.c_and_self : type_of% @and_self := @and_self
theorem VR.c_and_true : type_of% @and_true := @and_true
theorem VR.c_true_and : type_of% @true_and := @true_and
theorem VR.c_and_false : type_of% @and_false := @and_false
theorem VR.c_false_and : type_of% @false_and := @false_and
theorem VR.c_or_self : type_of% @or_self := @or_self
theorem VR.c_or_true : type_of% @or_true := @or_true
theorem VR.c_true_or : type_of% @true_or := @true_or
theorem VR.c_or_false : type_of% @or_false := @or_false
theorem VR.c_false_or : type_of% @false_or := @false_or
theorem VR.c_at_nil : type_of% @at_nil := @at_nil

end

set_option maxRecDepth 1000000
local macro_rules | `(tactic| simp! only [$xs,*]) => `(tactic| simp only [Nat.reduceSub, Nat.reduceAdd, Nat.reduceBEq, Nat.reduceEqDiff, Nat.reduceLT, reduceCtorEq, VL.runF, VL.entry, VL.noAl, VL.isAlOf, VL.treeAt, VL.putAt, VL.modeOk, VL.modeA, VL.mkAl, VL.unbor, VL.isLst, VL.asB, VL.datas, VL.derSs, VL.isAl, VL.killA, VL.backA, VL.argSls, VL.argSl, VL.Md.arg, VL.allIn, VL.oneEach, VL.posOf, VL.wb, VL.wbGo, VL.wb1, VR.c_List_map_cons, VR.c_List_map_nil, VR.c_List_length_cons, VR.c_List_length_nil, VR.c_List_cons_append, VR.c_List_nil_append, VR.c_List_getElem_cons_zero, VR.c_List_getElem_cons_succ, VR.c_List_set_cons_zero, VR.c_List_set_cons_succ, VR.c_List_take_succ_cons, VR.c_List_take_zero, VR.c_List_contains_nil, VR.c_Bool_false_or, VR.c_Bool_or_false, VR.c_Bool_not_true, VR.c_Bool_not_false, VR.c_Bool_false_eq_true, VR.c_Bool_and_self, VR.c_Bool_and_true, VR.c_Bool_true_and, VR.c_Bool_or_self, VR.c_Bool_and_false, VR.c_Bool_false_and, VR.c_Bool_or_true, VR.c_Bool_true_or, VR.c_if_true, VR.c_if_false, VR.c_ne_eq, VR.c_not_false_eq_true, VR.c_not_true_eq_false, VR.c_decide_true, VR.c_decide_false, VR.c_Option_map_some, VR.c_Option_map_none, VR.c_List_head_cons, VR.c_List_tail_cons, VR.c_List_all_cons, VR.c_List_all_nil, VR.c_Option_isNone_none, VR.c_Option_isSome_none, VR.c_Option_isSome_some, VR.c_Option_isNone_some, VR.c_List_contains_cons, VR.c_beq_self_eq_true, VR.c_eq_self, VR.c_and_self, VR.c_and_true, VR.c_true_and, VR.c_and_false, VR.c_false_and, VR.c_or_self, VR.c_or_true, VR.c_true_or, VR.c_or_false, VR.c_false_or, VR.ap_cVar, VR.cv_val, VR.cv_dat, VR.cv_tup, VR.cv_lst, VR.cv_dk, VR.pref, VR.pref0, VR.mrg1_val, VR.mrg1_own, VR.mrg_nil, VR.mrg_cons, VR.wb_d0, VR.wb_d1, VR.wb_d2, VR.wb_d3, VR.wb_d4, VR.wb_d5, VR.backOk_nil, VR.backOk_val, VR.backOk_own, VR.der_d, VR.derS_d, VR.argSl_d, VR.kd_str, VR.kd_int, VR.eqI, VR.neI, VR.ltI, VR.leI, VR.gtI, VR.geI, VR.addI, VR.subtI, VR.sub0, VR.sub1, VR.sub2, VR.sub3, VR.sub4, VR.sub5, VR.sm0, VR.sm1, VR.sm2, VR.sm3, VR.sm4, VR.sm5, VR.sm6, VR.sm7, VR.sm8, VR.sm9, VR.toD_d, VR.c_at_nil, VR.ap_bnd, VR.ap_ret, VR.ap_cD, VR.ap_cDGet, VR.ap_dGet1, VR.ap_cBin, VR.ap_bin1, VR.ap_cCmp, VR.ap_binD, VR.ap_cOf, VR.ap_cChain, VR.ap_cTest, VR.ap_cNot, VR.ap_cAnd, VR.ap_cOr, VR.ap_cAndV, VR.ap_cOrV, VR.ap_cNotV, VR.ap_cIf, VR.ap_cTup, VR.ap_mkTup, VR.ap_aNil, VR.ap_aCons, VR.ap_nDat, VR.ap_nLst, VR.ap_mkLst, VR.ap_cFrz, VR.ap_cLeaf, VR.ap_cLenP, VR.ap_cCall, VR.ap_call1, VR.ap_cNeg, VR.ap_nNew, VR.ap_nMeth, VR.ap_nMethK, VR.ap_callK, VR.ap_nCall, VR.ap_callN, VR.ap_nCallR, VR.ap_callR, VR.ap_cCut, VR.ap_cut1, VR.ap_oNone, VR.ap_oSome, VR.ap_cTab, VR.ap_tabD, VR.ap_cIsi, VR.ap_nCallP, VR.ap_nLend, VR.ap_callL, VR.ap_lP, VR.ap_lD, VR.ap_lNil, VR.ap_cDIn, VR.ap_dIn1, VR.ap_cEmp, VR.ap_cCmpP, VR.ap_nDisp, VR.ap_dtCons, VR.ap_dtNil, VR.ap_nDictC, VR.ap_nDictS, VR.ap_nListC, VR.ap_nCopyDs, VR.ap_nCopyM, VR.ap_nCatMv, VR.ap_nLstT, VR.ap_tConsM, VR.ap_tNilM, VR.ap_nTupT, VR.ap_nCutMv, VR.ap_cLk, VR.ap_nMv, VR.ap_nMvP, VR.ap_pVar, VR.ap_pIx, VR.ap_pAl, VR.ap_iSeq, VR.ap_nCat, VR.ap_sSeq, VR.ap_sE, VR.ap_sIf, VR.ap_sSet, VR.ap_sSetN, VR.ap_putD, VR.ap_sAsg, VR.ap_gT, VR.ap_gsC, VR.ap_gsN, VR.ap_gN, VR.ap_sDrop, VR.ap_sNil, VR.ap_sRet, VR.ap_sRetN, VR.ap_sRetV, VR.ap_sRaise, VR.ap_sAl, VR.ap_sEd, VR.ap_sKeyT, VR.ap_sDPut, VR.ap_dPut1, VR.ap_sDPutA, VR.ap_dPutA1, VR.ap_sApp, VR.ap_app1, VR.ap_sFldT, VR.ap_sPar, VR.ap_sTryK, VR.ap_sUpd, VR.ap_upd1, VR.ap_sPopK, VR.ap_popK1, VR.ap_sFzP, VR.ap_sUnp, VR.ap_sFor, VR.ap_sSetIx, $xs,*])

section

end



section
set_option Elab.async false
set_option linter.all false
set_option maxRecDepth 100000
namespace SP
open PySem PySem.Spec PyProof.Rows L2 VL SM
structure Crd where
  w : Int
  o : Int
  s : Str
  p : Int
  c : Int
  m : Int
deriving DecidableEq
noncomputable def Crd.D (x : Crd) : PyData := .tuple [.int x.w, .int x.o, .str x.s, .int x.p, .int x.c, .int x.m]
noncomputable def SideOk (s : Str) : Prop := s = sBought ∨ s = sSold
structure CrdOk (n : Int) (x : Crd) : Prop where
  w0 : 0 ≤ x.w
  w1 : x.w < n
  o0 : 0 ≤ x.o
  o1 : x.o < n
  wo : x.w ≠ x.o
  hd : SideOk x.s
  p0 : 0 ≤ x.p
  p1 : x.p ≤ 1000000000
  c0 : 1 ≤ x.c
  c1 : x.c ≤ 1000000
  m0 : 0 ≤ x.m
  m1 : x.m ≤ 1000000000
noncomputable def Bel (x y : Crd) : Prop := x.w = y.o ∧ x.o = y.w ∧ x.m = y.m
instance {x y : Crd} : Decidable (Bel x y) := by unfold Bel; infer_instance
theorem Bel.symm {x y : Crd} (h : Bel x y) : Bel y x := ⟨h.2.1.symm, h.1.symm, h.2.2.symm⟩
end SP

end

section
set_option Elab.async false
set_option linter.all false
set_option maxRecDepth 100000
namespace SP
open PySem PySem.Spec PyProof.Rows L2 VL SM
end SP

end

section
set_option Elab.async false
set_option linter.all false
set_option maxRecDepth 100000
set_option maxHeartbeats 1000000
namespace SH
open PySem PySem.Spec PyProof.Rows L2 VL SM SP
section
variable {z s : Int} {x y : S} {p : Past} {md : Md} {n : Nat} {g : Bg}
structure WdOk (g : Bg) : Prop where
  w : g.wd = s_x ∨ g.wd = s_done ∨ g.wd = s_void
  l : g.inn.length ≤ 2
end
end SH

end

section
set_option Elab.async false
set_option linter.all false
set_option maxRecDepth 100000
set_option maxHeartbeats 1000000
namespace SH
open PySem PySem.Spec PyProof.Rows L2 VL SM SP
section
variable {x0 x1 x2 : PyData} {xs : List PyData}
end
section
variable {z s : Int} {x y : S} {p : Past} {md : Md} {n : Nat} {g : Bg}
noncomputable def done1 (x : S) (n : Nat) (g : Bg) (pr ct : Int) : S := { x with made := x.made.set n { g with wd := s_done }, dl := x.dl ++ [.tuple [.int (if g.u1 = true then g.b else g.a), .int (if g.u1 = true then g.a else g.b), .int pr, .int ct, .int g.mo]], up := x.up ++ [.tuple [.int g.mo, .int pr, .int ct]] }
end
end SH

end

section
set_option Elab.async false
set_option linter.all false
set_option maxRecDepth 100000
set_option maxHeartbeats 1000000
namespace SH
open PySem PySem.Spec PyProof.Rows L2 VL SM SP
noncomputable def Bg.q1 (g : Bg) : Bool := decide (g.u1 = g.u2)
noncomputable def Bg.q2 (g : Bg) : Bool := !decide (g.p1 = g.p2)
noncomputable def Bg.q3 (g : Bg) : Bool := !decide (g.c1 = g.c2)
noncomputable def Bg.cm (g : Bg) : Crd := ⟨g.a, g.b, sdS g.u1, g.p1, g.c1, g.mo⟩
noncomputable def Bg.ct (g : Bg) : Crd := ⟨g.b, g.a, sdS g.u2, g.p2, g.c2, g.mo⟩
section
variable {z s : Int} {x y : S} {p : Past} {md : Md} {n : Nat} {g : Bg}
end
end SH

end

section
set_option Elab.async false
set_option linter.all false
set_option maxRecDepth 100000
set_option maxHeartbeats 1000000
namespace SH
open PySem PySem.Spec PyProof.Rows L2 VL SM SP
inductive Way where
  | void
  | done (p c : Int)
  | left
noncomputable def Way.d : Way → PyData
  | .void => .tuple [.str s_void]
  | .done p c => .tuple [.str s_done, .int p, .int c]
  | .left => .tuple [.str s_left]
section
variable {z s : Int} {x y : S} {p : Past} {md : Md} {n : Nat} {g : Bg}
end
end SH

end

section
set_option Elab.async false
set_option linter.all false
set_option maxRecDepth 100000
set_option maxHeartbeats 1000000
namespace SH
open PySem PySem.Spec PyProof.Rows L2 VL SM SP
theorem of_okM {α : Type} {o : Option (Er α)} {a : α} {ρ : Rho} (h : okM o fun b r => b = a ∧ r = ρ) : o = some (.ok a ρ) := by
  obtain ⟨b, r, e, rfl, rfl⟩ := h
  exact e
theorem comp_eq {α : Type} {D : α → PyData} {ds : List α} {fi : M (List PyData)} {v : Nat} {tt : M Bool} {te : M Rv} {ρ : Rho} {s : Sl} (p : α → Bool) (f : α → PyData) (hi : fi ρ = some (.ok (ds.map D) ρ)) (hl : ds.length ≤ 16777216) (hv : ρ[v]? = some s) (hs : unown s = true)
    (ht : ∀ d ∈ ds, tt (ρ.set v (.val (D d))) = some (.ok (p d) (ρ.set v (.val (D d))))) (he : ∀ d ∈ ds, p d = true → te (ρ.set v (.val (D d))) = some (.ok (.d (f d)) (ρ.set v (.val (D d))))) : nComp fi [v] (gN v) tt te ρ = some (.ok (.lst (((ds.filter p).map f).map .dat)) ρ) :=
  of_okM (okM_compM p f hi hl hv hs ht he ⟨rfl, rfl⟩)
theorem toD_ds {ds : List PyData} : Tr.toD (.lst (ds.map .dat)) = some (.list ds) := by
  show (Tr.toDs (ds.map .dat)).map PyData.list = _
  rw [toDs_dat]; rfl
section
variable {z s : Int} {x y : S} {p : Past} {md : Md} {n : Nat} {g : Bg}
section
variable {i pr ct : Int} (h : F_Hall_need_theirs [.own .pin (HT z s x p), .val (.int i), .val (.int (n : Nat))] = some (.ret (.dat .none), [.own .pin (HT z s x p), .val (.int i), .val (.int (n : Nat))])) (hg : x.made[n]? = some g) (hw : WdOk g)
end
end
end SH

end

section
set_option Elab.async false
set_option linter.all false
set_option maxRecDepth 100000
namespace SP
open PySem PySem.Spec PyProof.Rows L2 VL SM
noncomputable def sgD (a : Str) (b c : Int) (d : Str) : PyData := .tuple [.str a, .int b, .int c, .str d]
structure SgOk (a : Str) (b c : Int) (d : Str) : Prop where
  ha : a = sIn ∨ a = sOut
  b0 : 0 ≤ b
  b9 : b ≤ 9
  c1 : 1 ≤ c
  c9 : c ≤ 9
  hd : d = sChin ∨ d = sBrow
end SP

end

section
set_option Elab.async false
set_option linter.all false
set_option maxRecDepth 100000
namespace SP
open PySem PySem.Spec PyProof.Rows L2 VL SM
noncomputable def meantZ (c f : Int) : Int := if (f - c) % 10 ≤ 5 then c + (f - c) % 10 else if c ≥ 10 - (f - c) % 10 then c - (10 - (f - c) % 10) else c + (f - c) % 10
inductive JM (c f : Int) (i : Nat) : Rho → Prop where
  | mk {s : Sl} (h : frB (some s) = true) (hn : ∀ j : Nat, j < i → ¬ (c + j) % 10 = f ∧ ¬ ((j : Int) ≤ c ∧ (c - j) % 10 = f)) : JM c f i [.val (.int c), .val (.int f), s]
end SP

end

section
set_option Elab.async false
set_option linter.all false
set_option maxRecDepth 100000
namespace SP
open PySem PySem.Spec PyProof.Rows L2 VL SM
section
variable {z s : Int} {x y : St} {p q : List (St × PyData)} {m m2 : Md} {os : List Of}
noncomputable def Of.Ok (o : Of) : Prop := SgOk o.a o.b o.c o.d
noncomputable def after (o : Of) (os : List Of) : List Of := (os.filter fun e => !mine o.mem o.a e) ++ [o]
end
end SP

end

section
set_option Elab.async false
set_option linter.all false
set_option maxRecDepth 100000
set_option maxHeartbeats 1000000
namespace SH
open PySem PySem.Spec PyProof.Rows L2 VL SM SP
structure HeldOk (os : List Of) (off : Int) : Prop where
  up : os.Pairwise fun a b => a.n < b.n
  lt : ∀ o ∈ os, 0 ≤ o.n ∧ o.n < off
  ok : ∀ o ∈ os, o.Ok
  len : os.length < 10000
section
variable {z s : Int} {x y : S} {p : Past} {md : Md} {n : Nat} {g : Bg}
end
end SH

end

section
set_option Elab.async false
set_option linter.all false
set_option maxRecDepth 100000
set_option maxHeartbeats 1000000
namespace SH
open PySem PySem.Spec PyProof.Rows L2 VL SM SP
theorem seq_nx {g h : MS} {ρ ρ1 : Rho} (e : g ρ = some (.nx ρ1)) : sSeq g h ρ = h ρ1 := by
  unfold sSeq
  rw [e]
theorem rng1 {f : M (List Rv)} {ρ : Rho} {n : Nat} (h : f ρ = some (.ok [.d (.int (n : Nat))] ρ)) (hn : n < 100000) : iRange1 f ρ = some (.ok ((List.range n).map fun k => .int (0 + (k : Nat))) ρ) := by
  unfold iRange1 bnd
  rw [h]
  show (if -(2 ^ 62) ≤ ((n : Nat) : Int) ∧ ((n : Nat) : Int) < 2 ^ 62 then some (Er.ok (rangeD 0 ((n : Nat) : Int).toNat) ρ) else none) = _
  rw [if_pos (by omega)]
  rfl
section
variable {z s : Int} {x y : S} {p : Past} {md : Md} {n : Nat} {g : Bg}
noncomputable def opn (x : S) (k : Nat) : Bool := match x.made[k]? with
  | some g => decide (g.wd = s_x)
  | none => false
end
end SH

end

section
set_option Elab.async false
set_option linter.all false
set_option maxRecDepth 100000
set_option maxHeartbeats 1000000
namespace SH
open PySem PySem.Spec PyProof.Rows L2 VL SM SP
section
variable {z s : Int} {x y : S} {p : Past} {md : Md} {n : Nat} {g : Bg}
noncomputable def holdS (x : S) (o : Of) : S := { x with held := after o x.held, off := o.n + 1 }
end
end SH

end

section
set_option Elab.async false
set_option linter.all false
set_option maxRecDepth 100000
set_option maxHeartbeats 1000000
namespace SH
open PySem PySem.Spec PyProof.Rows L2 VL SM SP
section
variable {z s : Int} {x y : S} {p : Past} {md : Md} {n : Nat} {g : Bg}
end
end SH

end

section
set_option Elab.async false
set_option linter.all false
set_option maxRecDepth 100000
set_option maxHeartbeats 1000000
namespace SH
open PySem PySem.Spec PyProof.Rows L2 VL SM SP
section
variable {z s : Int} {x y : S} {p : Past} {md : Md} {n : Nat} {g : Bg}
end
end SH

end

section
set_option Elab.async false
set_option linter.all false
set_option maxRecDepth 100000
namespace SH
open PySem PySem.Spec PyProof.Rows L2 VL SM SP
end SH

end

section

end



section
set_option Elab.async false
set_option linter.all false
set_option maxRecDepth 100000
set_option maxHeartbeats 1000000
namespace SH
open PySem PySem.Spec PyProof.Rows L2 VL SM SP
theorem setSl_f {ρ : Rho} {i : Nat} {s : Sl} (h : frB ρ[i]? = true) : setSl ρ i s = some (ρ.set i s) := by
  unfold setSl
  split
  · rename_i h1; rw [h1] at h; cases h
  · rename_i h1; rw [h1] at h; cases h
  · rename_i h1; rw [h1] at h; cases h
  · rfl
  · rename_i h1; rw [h1] at h; cases h
section
variable {z s : Int} {x y : S} {p : Past} {md : Md} {n : Nat} {g : Bg} {rest : Rho}
end
end SH

end

section
set_option Elab.async false
set_option linter.all false
set_option maxRecDepth 100000
set_option maxHeartbeats 1000000
namespace SH
open PySem PySem.Spec PyProof.Rows L2 VL SM SP
inductive Cl where
  | hold (i : Int) (d : PyData)
  | lower (i : Int) (a : Str)
  | take (i o : Int) (lk sw se : PyData)
  | inn (i n : Int)
  | settle (n : Int)
  | cons (i n pr ct : Int)
  | pass (t : Int)
  | close
  | back
noncomputable def Cl.d : Cl → PyData
  | .hold i d => .tuple [.str s_hold, .int i, d]
  | .lower i a => .tuple [.str s_lower, .int i, .str a]
  | .take i o lk sw se => .tuple [.str s_take, .int i, .int o, lk, sw, se]
  | .inn i n => .tuple [.str sIn, .int i, .int n]
  | .settle n => .tuple [.str s_settle, .int n]
  | .cons i n pr ct => .tuple [.str s_consent, .int i, .int n, .int pr, .int ct]
  | .pass t => .tuple [.str s_pass, .int t]
  | .close => .tuple [.str s_close]
  | .back => .tuple [.str s_back]
section
variable {z s : Int} {x y : S} {p : Past} {md : Md} {n : Nat} {g : Bg} {rest : Rho}
end
end SH

end

section
set_option Elab.async false
set_option linter.all false
set_option maxRecDepth 100000
set_option maxHeartbeats 1000000
namespace SH
open PySem PySem.Spec PyProof.Rows L2 VL SM SP
section
variable {z s : Int} {x y : S} {p : Past} {md : Md} {n : Nat} {g : Bg} {rest : Rho}
end
end SH

end

section
set_option Elab.async false
set_option linter.all false
set_option maxRecDepth 100000
set_option maxHeartbeats 1000000
namespace SH
open PySem PySem.Spec PyProof.Rows L2 VL SM SP
section
variable {z s : Int} {x y : S} {p : Past} {md : Md} {n : Nat} {g : Bg} {rest : Rho}
end
end SH

end

section
set_option Elab.async false
set_option linter.all false
set_option maxRecDepth 100000
set_option maxHeartbeats 1000000
namespace SH
open PySem PySem.Spec PyProof.Rows L2 VL SM SP
structure CoOk (g : Bg) : Prop where
  nd : (g.co.map (·.1)).Nodup
  nh : (g.ch.map (·.1)).Nodup
  eq : ∀ r, r ∈ g.co ↔ r ∈ g.ch
  len : g.co.length ≤ 100
  lnh : g.ch.length ≤ 99
section
variable {z s : Int} {x y : S} {p : Past} {md : Md} {n : Nat} {g : Bg} {rest : Rho} {t u : Tr}
end
end SH

end

section
set_option Elab.async false
set_option linter.all false
set_option maxRecDepth 100000
set_option maxHeartbeats 1000000
namespace SH
open PySem PySem.Spec PyProof.Rows L2 VL SM SP
section
variable {z s : Int} {x y : S} {p : Past} {md : Md} {n : Nat} {g : Bg} {rest : Rho} {t u : Tr}
end
end SH

end

section
set_option Elab.async false
set_option linter.all false
set_option maxRecDepth 100000
set_option maxHeartbeats 1000000
namespace SH
open PySem PySem.Spec PyProof.Rows L2 VL SM SP
noncomputable def alks (d : PyData) : List PyData := match F_alikes [.val d] with
  | some (.ret (.lst ts), _) => (flat ts).getD []
  | _ => []
noncomputable def isSgB (d : PyData) : Bool := match F_is_sign [.val d] with
  | some (.ret (.dat (.bool b)), _) => b
  | _ => false
noncomputable def isShB (d : PyData) : Bool := match F_is_showing [.val d] with
  | some (.ret (.dat (.bool b)), _) => b
  | _ => false
noncomputable def lotsD (d : PyData) : Int := match F_lots_of [.val d] with
  | some (.ret (.dat (.int i)), _) => i
  | _ => 0
structure ShOk (c : Int) (d : Str) : Prop where
  c1 : 1 ≤ c
  c9 : c ≤ 9
  hd : d = sChin ∨ d = sBrow
structure TS (d : PyData) : Prop where
  f : ∃ outs, F_is_sign [.val d] = some (.ret (.dat (.bool (isSgB d))), outs)
  g : isSgB d = true → IsSign d
  s : Sh 4 d
structure TW (d : PyData) : Prop where
  f : ∃ outs, F_is_showing [.val d] = some (.ret (.dat (.bool (isShB d))), outs)
  g : isShB d = true → IsShow d
  s : Sh 4 d
structure AlOk' (d : PyData) : Prop where
  f : ∃ outs, F_alikes [.val d] = some (.ret (.lst ((alks d).map .dat)), outs)
  s : Sh 1 d
  sa : ∀ e ∈ alks d, Sh 1 e
  l : (alks d).length ≤ 4
end SH

end

section
set_option Elab.async false
set_option linter.all false
set_option maxRecDepth 100000
set_option maxHeartbeats 1000000
namespace SH
open PySem PySem.Spec PyProof.Rows L2 VL SM SP
theorem Of.isSign {o : Of} (h : o.Ok) : IsSign o.sg := .mk h.ha h.b0 h.b9 h.c1 h.c9 h.hd
section
variable {z s : Int} {x y : S} {p : Past} {md : Md} {n : Nat} {g : Bg} {rest : Rho} {t u : Tr} {o : Of} {lk sw se : PyData}
end
end SH

end

section
set_option Elab.async false
set_option linter.all false
set_option maxRecDepth 100000
set_option maxHeartbeats 1000000
namespace SH
open PySem PySem.Spec PyProof.Rows L2 VL SM SP
noncomputable def cntT (o : Of) (se : PyData) : Int := if o.lf < lotsD se then o.lf else lotsD se
noncomputable def newB (x : S) (o : Of) (i c : Int) (a2 : Str) (b2 : Int) (lk sw se : PyData) : Bg := ⟨o.mem, i, o.sg, lk, sw, se, decide (o.a = sIn), !decide (a2 = sIn), o.pr, cntT o se, meantZ c b2, lotsD sw, x.mo, [], s_x, c, [], []⟩
noncomputable def lessN (o : Of) (k : Int) : Of := { o with lf := o.lf - k }
noncomputable def heldT (o : Of) (k : Int) (os : List Of) : List Of := if o.lf = k then os.filter (fun e => decide (e.n ≠ o.n)) else os.map fun e => if e.n = o.n then lessN o k else e
noncomputable def tkS (x : S) (o : Of) (i c : Int) (a2 : Str) (b2 : Int) (lk sw se : PyData) : S := { x with held := heldT o (cntT o se) x.held, made := x.made ++ [newB x o i c a2 b2 lk sw se] }
theorem min2 {a b : Int} : min2D [.int a, .int b] = some (.int (if b < a then b else a)) := rfl
section
variable {z s : Int} {x y : S} {p : Past} {md : Md} {n : Nat} {g : Bg} {rest : Rho} {t u : Tr} {o : Of} {lk sw se : PyData}
end
end SH

end

section
set_option Elab.async false
set_option linter.all false
set_option maxRecDepth 100000
set_option maxHeartbeats 2000000
namespace SH
open PySem PySem.Spec PyProof.Rows L2 VL SM SP
section
variable {z s : Int} {x y : S} {p : Past} {md : Md} {n : Nat} {g : Bg} {rest : Rho} {t u : Tr} {o : Of} {sw se : PyData}
end
end SH

end

section
set_option Elab.async false
set_option linter.all false
set_option maxRecDepth 100000
set_option maxHeartbeats 2000000
namespace SH
open PySem PySem.Spec PyProof.Rows L2 VL SM SP
section
variable {z s : Int} {x y : S} {p : Past} {md : Md} {n : Nat} {g : Bg} {rest : Rho} {t u : Tr} {o : Of} {sw se : PyData}
end
end SH

end

section
set_option Elab.async false
set_option linter.all false
set_option maxRecDepth 100000
set_option maxHeartbeats 2000000
namespace SH
open PySem PySem.Spec PyProof.Rows L2 VL SM SP
section
variable {z s : Int} {x y : S} {p : Past} {md : Md} {n : Nat} {g : Bg} {rest : Rho} {t u : Tr} {o : Of} {sw se : PyData}
end
end SH

end

section
set_option Elab.async false
set_option linter.all false
set_option maxRecDepth 100000
set_option maxHeartbeats 2000000
namespace SH
open PySem PySem.Spec PyProof.Rows L2 VL SM SP
section
variable {z s : Int} {x y : S} {p : Past} {md : Md} {n : Nat} {g : Bg} {rest : Rho} {t u : Tr} {o : Of} {sw se : PyData}
end
end SH

end

section
set_option Elab.async false
set_option linter.all false
set_option maxRecDepth 100000
set_option maxHeartbeats 2000000
namespace SH
open PySem PySem.Spec PyProof.Rows L2 VL SM SP
section
variable {z s : Int} {x y : S} {p : Past} {md : Md} {n : Nat} {g : Bg} {rest : Rho} {t u a b c d a' b' c' d' : Tr}
structure ClOk (c : Cl) : Prop where
  h : ∀ i d, c = .hold i d → TS d
  l : ∀ i a, c = .lower i a → PalmS a
  t : ∀ i o lk sw se, c = .take i o lk sw se → TS lk ∧ TW sw ∧ TW se
end
end SH

end

section
set_option Elab.async false
set_option linter.all false
set_option maxRecDepth 100000
set_option maxHeartbeats 2000000
namespace SH
open PySem PySem.Spec PyProof.Rows L2 VL SM SP
section
variable {z s : Int} {x y : S} {p : Past} {md : Md} {n : Nat} {g : Bg} {rest : Rho}
noncomputable def Cl.w : Cl → Str
  | .hold _ _ => s_hold
  | .lower _ _ => s_lower
  | .take _ _ _ _ _ => s_take
  | .inn _ _ => sIn
  | .settle _ => s_settle
  | .cons _ _ _ _ => s_consent
  | .pass _ => s_pass
  | .close => s_close
  | .back => s_back
theorem Cl.d0 {c : Cl} : subD c.d (.int 0) = some (.str c.w) := by cases c <;> exact VR.sub0
end
end SH

end

section
set_option Elab.async false
set_option linter.all false
set_option maxRecDepth 100000
set_option maxHeartbeats 2000000
namespace SH
open PySem PySem.Spec PyProof.Rows L2 VL SM SP
section
variable {z s : Int} {x y x' : S} {p p' : Past} {md : Md} {n : Nat} {g : Bg} {rest : Rho} {t u : Tr}
end
end SH

end

section
set_option Elab.async false
set_option linter.all false
set_option maxRecDepth 100000
namespace SP
open PySem PySem.Spec PyProof.Rows L2 VL
structure Pr where
  m : Int
  p : Int
  c : Int
noncomputable def Pr.D (x : Pr) : PyData := .tuple [.int x.m, .int x.p, .int x.c]
structure PrOk (x : Pr) : Prop where
  m0 : 0 ≤ x.m
  p0 : 0 ≤ x.p
  p1 : x.p ≤ 1000000000
  c0 : 1 ≤ x.c
  c1 : x.c ≤ 1000000
noncomputable def mx : List Int → Int
  | [] => 0
  | x :: xs => maxI x xs
noncomputable def mn : List Int → Int
  | [] => 0
  | x :: xs => minI x xs
noncomputable def dst (xs : List Int) : List Int := xs.foldl (fun ks x => if x ∈ ks then ks else ks ++ [x]) []
theorem rev_ind {P : List Int → Prop} (h0 : P []) (hs : ∀ xs x, P xs → P (xs ++ [x])) : ∀ xs, P xs := fun xs => by
  have : ∀ ys : List Int, P ys.reverse := fun ys => by
    induction ys with
    | nil => exact h0
    | cons y ys ih => rw [List.reverse_cons]; exact hs _ _ ih
  have := this xs.reverse
  rwa [List.reverse_reverse] at this
noncomputable def grp (k : Int) (ps : List Pr) : List Pr := ps.filter fun x => x.m == k
noncomputable def ms (ps : List Pr) : List Int := ps.map (·.m)
noncomputable def pr (ps : List Pr) : List Int := ps.map (·.p)
noncomputable def lots (ps : List Pr) : Int := (ps.map (·.c)).sum
noncomputable def mom (ps : List Pr) : List Int := sortI (dst (ms ps))
theorem lots_app {ps qs : List Pr} : lots (ps ++ qs) = lots ps + lots qs := by
  unfold lots
  rw [List.map_append]
  generalize qs.map (·.c) = ys
  induction ps with
  | nil => simp
  | cons x xs ih => simp [ih]; omega
theorem pr_app {ps qs : List Pr} : pr (ps ++ qs) = pr ps ++ pr qs := by simp [pr]
noncomputable def cnt (y : Int) (ps : List Pr) : Int := lots (ps.filter fun x => x.p == y)
theorem cnt_app {y : Int} {ps qs : List Pr} : cnt y (ps ++ qs) = cnt y ps + cnt y qs := by
  unfold cnt
  rw [List.filter_append, lots_app]
structure Best (qs : List Pr) (x : Int) : Prop where
  i : x ∈ pr qs
  b : ∀ y ∈ pr qs, cnt y qs < cnt x qs ∨ cnt y qs = cnt x qs ∧ y ≤ x
theorem Best.uniq {qs : List Pr} {x y : Int} (h : Best qs x) (h' : Best qs y) : x = y := by
  have a := h.b y h'.i
  have b := h'.b x h.i
  omega
theorem Best.two {qs : List Pr} {x : Int} (b : Best qs x) : Best (qs ++ qs) x := by
  refine ⟨by rw [pr_app]; exact List.mem_append_left _ b.i, fun y hy => ?_⟩
  rw [pr_app] at hy
  have hy : y ∈ pr qs := (List.mem_append.mp hy).elim id id
  rw [cnt_app, cnt_app]
  have := b.b y hy
  omega
noncomputable def mxm (ps : List Pr) : Int := (ms ps).foldl (fun a m => if m > a then m else a) (-1)
noncomputable def isL (ps : List Pr) (i : Nat) : Bool := match ps[i]? with
  | some x => decide (x.m < mxm (ps.take i))
  | none => false
noncomputable def lat (ps : List Pr) : List Nat := (List.range ps.length).filter (isL ps)
end SP

end

section
set_option Elab.async false
set_option linter.all false
set_option maxRecDepth 100000
namespace SP
open PySem PySem.Spec PyProof.Rows L2 VL SM
noncomputable def dD (ks : List Int) (f : Int → PyData) : List (Key × PyData) := ks.map fun k => (.inl k, f k)
theorem dats_toT {ds : List (Key × PyData)} : dats (toT ds) = some ds := by
  induction ds with
  | nil => rfl
  | cons x ds ih =>
    obtain ⟨k, d⟩ := x
    show (dats (toT ds)).map ((k, d) :: ·) = _
    rw [ih]
    rfl
noncomputable def latD (ps : List Pr) : List PyData := (lat ps).map fun i => .int (i : Nat)
inductive JL (ps qs : List Pr) : Rho → Prop where
  | mk {a b : Sl} (ha : frB (some a) = true) (hb : frB (some b) = true) : JL ps qs [.val (.list (ps.map Pr.D)), .val (.int (mxm qs)), .own .free (tr (latD qs)), a, b]
noncomputable def rT (k : Int) (ps : List Pr) : List PyData := [.int (mn (pr (grp k ps))), .int (mx (pr (grp k ps))), .int (lots (grp k ps))]
inductive JR (ps qs : List Pr) : Rho → Prop where
  | mk {a b c d e f : Sl} (ha : frB (some a) = true) (ha' : unown a = true) (hb : frB (some b) = true) (hc : frB (some c) = true) (hd : frB (some d) = true) (he : frB (some e) = true) (hf : frB (some f) = true) :
    JR ps qs [.val (.list (ps.map Pr.D)), .own .free (.dk (toT (dD (dst (ms qs)) fun k => .tuple (rT k qs)))), a, b, c, d, e, f]
noncomputable def rowD (ps : List Pr) (k : Int) : PyData := .tuple (.int k :: rT k ps)
noncomputable def rowsD (ps : List Pr) : List PyData := (mom ps).map (rowD ps)
end SP

end

section
set_option Elab.async false
set_option linter.all false
set_option maxRecDepth 100000
namespace SP
open PySem PySem.Spec PyProof.Rows L2 VL SM
inductive JC (ps qs : List Pr) (L f0 : Int) : Rho → Prop where
  | mk {a b c d : Sl} (ha : unown a = true) (ha' : frB (some a) = true) (hb : frB (some b) = true) (hc : frB (some c) = true) (hc' : unown c = true) (hd : frB (some d) = true) :
    JC ps qs L f0 [.val (.list (ps.map Pr.D)), .val (.int f0), .val (.int L), a, .own .free (.dk (toT (dD (dst (pr (grp L qs))) fun y => .int (cnt y (grp L qs))))), b, c, d]
end SP

end

section
set_option Elab.async false
set_option linter.all false
set_option maxRecDepth 100000
set_option maxHeartbeats 2000000
namespace SH
open PySem PySem.Spec PyProof.Rows L2 VL SM SP
theorem two_le {l : List Int} {a b : Int} (nd : l.Nodup) (h : ∀ i ∈ l, i = a ∨ i = b) : l.length ≤ 2 := by
  match l, nd, h with
  | [], _, _ => simp
  | [_], _, _ => simp
  | [_, _], _, _ => simp
  | u :: v :: w :: r, nd, h =>
    exfalso
    have h1 := h u (by simp)
    have h2 := h v (by simp)
    have h3 := h w (by simp)
    simp only [List.nodup_cons, List.mem_cons, not_or] at nd
    obtain ⟨⟨n1, n2, _⟩, ⟨n3, _⟩, _⟩ := nd
    omega
structure DL where
  s : Int
  b : Int
  p : Int
  c : Int
  m : Int
noncomputable def DL.D (d : DL) : PyData := .tuple [.int d.s, .int d.b, .int d.p, .int d.c, .int d.m]
noncomputable def PB (N : Nat) (p : Int) : Prop := 0 ≤ p ∧ p ≤ 100000000 + 10 * (N : Int)
noncomputable def CB (c : Int) : Prop := 0 ≤ c ∧ c ≤ 1000000
theorem PB.mono {N M : Nat} {p : Int} (h : PB N p) (hm : N ≤ M) : PB M p := ⟨h.1, by have := h.2; omega⟩
structure DLOk (z : Int) (N : Nat) (d : DL) : Prop where
  s0 : 0 ≤ d.s
  s1 : d.s < z
  b0 : 0 ≤ d.b
  b1 : d.b < z
  p : PB N d.p
  c : CB d.c
structure GOk (z : Int) (N : Nat) (g : Bg) : Prop where
  wd : WdOk g
  co : CoOk g
  a0 : 0 ≤ g.a
  a1 : g.a < z
  b0 : 0 ≤ g.b
  b1 : g.b < z
  p1 : PB N g.p1
  p2 : PB N g.p2
  cl : PB N g.cl
  c1 : CB g.c1
  c2 : CB g.c2
  sg : IsSign g.sg
  lk : IsSign g.lk
  sw : IsShow g.sw
  se : IsShow g.se
  im : ∀ i ∈ g.inn, i = g.a ∨ i = g.b
  nd : g.inn.Nodup
  cm : ∀ r ∈ g.ch, r.1 = g.a ∨ r.1 = g.b
structure Inv (z s : Int) (N : Nat) (x : S) : Prop where
  hh : HeldOk x.held x.off
  hm : ∀ o ∈ x.held, 0 ≤ o.mem ∧ o.mem < z ∧ PB N o.pr ∧ 0 ≤ o.lf ∧ o.lf ≤ 90
  off : 0 ≤ x.off ∧ x.off ≤ N
  gs : ∀ g ∈ x.made, GOk z N g
  up : ∃ ps : List Pr, x.up = ps.map Pr.D ∧ ∀ q ∈ ps, PB N q.p
  dl : ∃ ds : List DL, x.dl = ds.map DL.D ∧ ∀ q ∈ ds, DLOk z N q
  lm : x.made.length ≤ N
  lu : x.up.length ≤ N
  ld : x.dl.length ≤ N
  lh : x.held.length ≤ N
section
variable {z s : Int} {x y x' : S} {p p' : Past} {md : Md} {n N : Nat} {g : Bg} {rest : Rho} {t u : Tr}
theorem GOk.mono {M : Nat} (G : GOk z N g) (h : N ≤ M) : GOk z M g := ⟨G.wd, G.co, G.a0, G.a1, G.b0, G.b1, G.p1.mono h, G.p2.mono h, G.cl.mono h, G.c1, G.c2, G.sg, G.lk, G.sw, G.se, G.im, G.nd, G.cm⟩
theorem Inv.mono {M : Nat} (I : Inv z s N x) (h : N ≤ M) : Inv z s M x := ⟨I.hh, fun o ho => ⟨(I.hm o ho).1, (I.hm o ho).2.1, (I.hm o ho).2.2.1.mono h, (I.hm o ho).2.2.2⟩, ⟨I.off.1, by have := I.off.2; omega⟩, fun g hg => (I.gs g hg).mono h, I.up.imp fun ps q => ⟨q.1, fun r hr => (q.2 r hr).mono h⟩, I.dl.imp fun ds q => ⟨q.1, fun r hr => ⟨(q.2 r hr).s0, (q.2 r hr).s1, (q.2 r hr).b0, (q.2 r hr).b1, (q.2 r hr).p.mono h, (q.2 r hr).c⟩⟩, Nat.le_trans I.lm h, Nat.le_trans I.lu h, Nat.le_trans I.ld h, Nat.le_trans I.lh h⟩
theorem Inv.wds (I : Inv z s N x) : ∀ g ∈ x.made, WdOk g := fun g h => (I.gs g h).wd
theorem GOk.word (G : GOk z N g) {w : Str} (hw : w = s_x ∨ w = s_done ∨ w = s_void) : GOk z N { g with wd := w } := ⟨⟨hw, G.wd.l⟩, ⟨G.co.nd, G.co.nh, G.co.eq, G.co.len, G.co.lnh⟩, G.a0, G.a1, G.b0, G.b1, G.p1, G.p2, G.cl, G.c1, G.c2, G.sg, G.lk, G.sw, G.se, G.im, G.nd, G.cm⟩
theorem Inv.set (I : Inv z s N x) (G : GOk z N g) : Inv z s N { x with made := x.made.set n g } := by
  refine ⟨I.hh, I.hm, I.off, fun g' h => ?_, I.up, I.dl, ?_, I.lu, I.ld, I.lh⟩
  · rcases List.mem_or_eq_of_mem_set h with h | rfl
    · exact I.gs g' h
    · exact G
  · show (x.made.set n g).length ≤ N
    rw [List.length_set]
    exact I.lm
theorem Inv.done (I : Inv z s N x) (G : GOk z N g) {pr ct : Int} (hp : PB N pr) (hc : CB ct) : Inv z s (N + 1) (done1 x n g pr ct) := by
  have J := (I.set (n := n) (G.word (w := s_done) (.inr (.inl rfl)))).mono (Nat.le_succ N)
  refine ⟨J.hh, J.hm, J.off, J.gs, ?_, ?_, J.lm, ?_, ?_, J.lh⟩
  · obtain ⟨ps, e, h⟩ := I.up
    refine ⟨ps ++ [⟨g.mo, pr, ct⟩], ?_, fun q hq => ?_⟩
    · show x.up ++ [_] = _
      rw [e, List.map_append]
      rfl
    · rcases List.mem_append.mp hq with hq | hq
      · exact (h q hq).mono (Nat.le_succ N)
      · rw [List.mem_singleton.mp hq]; exact hp.mono (Nat.le_succ N)
  · obtain ⟨ds, e, h⟩ := I.dl
    refine ⟨ds ++ [⟨if g.u1 = true then g.b else g.a, if g.u1 = true then g.a else g.b, pr, ct, g.mo⟩], ?_, fun q hq => ?_⟩
    · show x.dl ++ [_] = _
      rw [e, List.map_append]
      rfl
    · rcases List.mem_append.mp hq with hq | hq
      · have := h q hq
        exact ⟨this.s0, this.s1, this.b0, this.b1, this.p.mono (Nat.le_succ N), this.c⟩
      · rw [List.mem_singleton.mp hq]
        refine ⟨?_, ?_, ?_, ?_, hp.mono (Nat.le_succ N), hc⟩ <;> simp only <;> split <;> first | exact G.a0 | exact G.a1 | exact G.b0 | exact G.b1
  · show (x.up ++ [_]).length ≤ N + 1
    have := I.lu
    simp; omega
  · show (x.dl ++ [_]).length ≤ N + 1
    have := I.ld
    simp; omega
theorem Inv.hold (I : Inv z s N x) (hN : N < 9000) {o : Of} (ho : o.Ok) (hn : o.n = x.off) (h0 : 0 ≤ o.mem) (h1 : o.mem < z) (hp : PB (N + 1) o.pr) (hl0 : 0 ≤ o.lf ∧ o.lf ≤ 90) : Inv z s (N + 1) (holdS x o) := by
  have J := I.mono (Nat.le_succ N)
  have hl : (after o x.held).length ≤ N + 1 := by
    unfold after
    have := List.length_filter_le (fun e => !mine o.mem o.a e) x.held
    have := I.lh
    simp; omega
  have mem : ∀ e ∈ after o x.held, e ∈ x.held ∨ e = o := fun e he => by
    unfold after at he
    rcases List.mem_append.mp he with he | he
    · exact .inl (List.mem_filter.mp he).1
    · exact .inr (List.mem_singleton.mp he)
  refine ⟨⟨?_, fun e he => ?_, fun e he => ?_, by show (after o x.held).length < _; omega⟩, fun e he => ?_, ?_, J.gs, J.up, J.dl, Nat.le_succ_of_le I.lm, Nat.le_succ_of_le I.lu, Nat.le_succ_of_le I.ld, hl⟩
  · show (after o x.held).Pairwise _
    unfold after
    refine List.pairwise_append.mpr ⟨I.hh.up.filter _, List.pairwise_singleton .., fun a ha b hb => ?_⟩
    rw [List.mem_singleton.mp hb, hn]
    exact (I.hh.lt a (List.mem_filter.mp ha).1).2
  · show 0 ≤ e.n ∧ e.n < o.n + 1
    rcases mem e he with h | rfl
    · have := I.hh.lt e h; omega
    · have := I.off.1; omega
  · rcases mem e he with h | rfl
    · exact I.hh.ok e h
    · exact ho
  · rcases mem e he with h | rfl
    · exact J.hm e h
    · exact ⟨h0, h1, hp, hl0⟩
  · show 0 ≤ o.n + 1 ∧ o.n + 1 ≤ ((N + 1 : Nat) : Int)
    have := I.off; omega
theorem heldT_mem {o e : Of} {k : Int} {os : List Of} (h : e ∈ heldT o k os) : e ∈ os ∨ e = lessN o k := by
  unfold heldT at h
  split at h
  · exact .inl (List.mem_filter.mp h).1
  · obtain ⟨q, hq, rfl⟩ := List.mem_map.mp h
    split
    · exact .inr rfl
    · exact .inl hq
theorem Inv.take (I : Inv z s N x) (hN : N < 9000) {o : Of} {i c : Int} {a2 : Str} {b2 c2 : Int} {d2 : Str} {sw se : PyData} (ho : o ∈ x.held) (i0 : 0 ≤ i) (i1 : i < z) (hs : SgOk a2 b2 c2 d2) (h2 : IsShow sw) (h3 : IsShow se) (c0 : PB N c) (hm : PB (N + 1) (meantZ c b2)) (q2 : CB (lotsD sw)) (q3 : CB (lotsD se)) : Inv z s (N + 1) (tkS x o i c a2 b2 (sgD a2 b2 c2 d2) sw se) := by
  have hl : (heldT o (cntT o se) x.held).length ≤ N := by
    unfold heldT
    split
    · exact Nat.le_trans (List.length_filter_le ..) I.lh
    · rw [List.length_map]; exact I.lh
  have J := I.mono (Nat.le_succ N)
  have io := J.hm o ho
  have hcn : CB (cntT o se) ∧ cntT o se ≤ o.lf := by
    unfold cntT CB
    have := io.2.2.2
    have := q3.1
    have := q3.2
    split <;> omega
  refine ⟨⟨?_, fun e he => ?_, fun e he => ?_, by show (heldT o (cntT o se) x.held).length < _; omega⟩, fun e he => ?_, J.off, fun g hg => ?_, J.up, J.dl, ?_, Nat.le_succ_of_le I.lu, Nat.le_succ_of_le I.ld, Nat.le_succ_of_le hl⟩
  · show (heldT o (cntT o se) x.held).Pairwise _
    unfold heldT
    split
    · exact I.hh.up.filter _
    · rw [List.pairwise_map]
      refine I.hh.up.imp ?_
      intro a b h
      have e : ∀ q : Of, (if q.n = o.n then lessN o (cntT o se) else q).n = q.n := fun q => by
        split
        · rename_i h; exact h.symm
        · rfl
      rw [e, e]
      exact h
  · rcases heldT_mem he with h | rfl
    · exact I.hh.lt e h
    · exact I.hh.lt o ho
  · rcases heldT_mem he with h | rfl
    · exact I.hh.ok e h
    · exact I.hh.ok o ho
  · rcases heldT_mem he with h | rfl
    · exact J.hm e h
    · refine ⟨io.1, io.2.1, io.2.2.1, ?_⟩
      show 0 ≤ o.lf - cntT o se ∧ o.lf - cntT o se ≤ 90
      have := io.2.2.2
      have := hcn.1.1
      have := hcn.2
      omega
  · rcases List.mem_append.mp hg with hg | hg
    · exact J.gs g hg
    · rw [List.mem_singleton.mp hg]
      exact ⟨⟨.inl rfl, by show 0 ≤ 2; decide⟩, ⟨.nil, .nil, fun r => Iff.rfl, by show 0 ≤ 100; decide, by show 0 ≤ 99; decide⟩, io.1, io.2.1, i0, i1, io.2.2.1, hm, c0.mono (Nat.le_succ N), hcn.1, q2, Of.isSign (I.hh.ok o ho), .mk hs.ha hs.b0 hs.b9 hs.c1 hs.c9 hs.hd, h2, h3, fun _ h => (nomatch h), .nil, fun _ h => (nomatch h)⟩
  · show (x.made ++ [_]).length ≤ N + 1
    have := I.lm
    simp; omega
end
end SH

end

section
set_option Elab.async false
set_option linter.all false
set_option maxRecDepth 100000
set_option maxHeartbeats 2000000
namespace SH
open PySem PySem.Spec PyProof.Rows L2 VL SM SP
structure Good (d : PyData) : Prop where
  s : Sh 5 d
  b : ∃ e k, d = .tuple [e, .str k] ∧ isiD .bool e = some false
section
variable {z s : Int} {x y x' : S} {p p' : Past} {md : Md} {n N : Nat} {g : Bg} {rest : Rho} {t u : Tr} {c : Cl}
end
end SH

end

section
set_option Elab.async false
set_option linter.all false
set_option maxRecDepth 100000
set_option maxHeartbeats 2000000
namespace SH
open PySem PySem.Spec PyProof.Rows L2 VL SM SP
section
variable {z s : Int} {x y x' : S} {p p' : Past} {md : Md} {n N : Nat} {g : Bg} {rest : Rho} {t u : Tr} {c : Cl}
theorem GOk.inn (G : GOk z N g) {i : Int} (hi : i = g.a ∨ i = g.b) (hn : i ∉ g.inn) : GOk z N { g with inn := g.inn ++ [i] } := by
  have nd : (g.inn ++ [i]).Nodup := by
    rw [List.nodup_append]
    refine ⟨G.nd, by simp, fun a ha b hb e => hn ?_⟩
    rw [← List.mem_singleton.mp hb, ← e]
    exact ha
  have im : ∀ k ∈ g.inn ++ [i], k = g.a ∨ k = g.b := fun k hk => by
    rcases List.mem_append.mp hk with hk | hk
    · exact G.im k hk
    · rw [List.mem_singleton.mp hk]; exact hi
  exact ⟨⟨G.wd.w, two_le nd im⟩, ⟨G.co.nd, G.co.nh, G.co.eq, G.co.len, G.co.lnh⟩, G.a0, G.a1, G.b0, G.b1, G.p1, G.p2, G.cl, G.c1, G.c2, G.sg, G.lk, G.sw, G.se, im, nd, G.cm⟩
end
end SH

end

section
set_option Elab.async false
set_option linter.all false
set_option maxRecDepth 100000
set_option maxHeartbeats 2000000
namespace SH
open PySem PySem.Spec PyProof.Rows L2 VL SM SP
theorem ne_self {d : PyData} {n : Nat} (h : Sh n d) (hn : n ≤ 64) : neD d d = some false := by
  show (if SeqAt.shaped d && SeqAt.shaped d then some (!PyData.eqv d d) else none) = _
  rw [h.ok hn, eqv_self (h.ok hn)]
  rfl
section
variable {z s : Int} {x y x' : S} {p p' : Past} {md : Md} {n N : Nat} {g : Bg} {rest : Rho} {t u : Tr} {a0 : Sl}
end
end SH

end

section
set_option Elab.async false
set_option linter.all false
set_option maxRecDepth 100000
set_option maxHeartbeats 2000000
namespace SH
open PySem PySem.Spec PyProof.Rows L2 VL SM SP
section
variable {z s : Int} {x y x' : S} {p p' : Past} {md : Md} {n N : Nat} {g : Bg} {rest : Rho} {t u : Tr} {a0 : Sl}
end
end SH

end

section
set_option Elab.async false
set_option linter.all false
set_option maxRecDepth 100000
set_option maxHeartbeats 2000000
namespace SH
open PySem PySem.Spec PyProof.Rows L2 VL SM SP
structure Bag where
  c : Int
  s : Int
noncomputable def bgT (b : Bag) : Tr := .lst [.dat (.int b.c), .dat (.int b.s)]
noncomputable def BgOk (b : Bag) : Prop := BagT (bgT b)
theorem bg_of {t : Tr} (h : BagT t) : ∃ b, t = bgT b ∧ BgOk b := by
  have h' := h
  obtain ⟨c0, s0, s1⟩ := h'
  exact ⟨⟨_, _⟩, rfl, h⟩
section
variable {b : Bag} {md : Md}
theorem cv_bg {i : Nat} {ρ : Rho} : VR.cvS i ρ (some (.own md (bgT b))) = some (.ok (.o i) ρ) := rfl
theorem e_tk {n : Int} (hb : BgOk b) (h0 : 0 < n) (hl : n ≤ 1000000000) : ∃ v b', BgOk b' ∧ 0 ≤ v ∧ v < n ∧ fTake [.own .pin (bgT b), .val (.int n)] = some (.ret (.dat (.int v)), [.own .pin (bgT b'), .val (.int n)]) := by
  obtain ⟨t, outs, e, v, b', h1, h2, h3, rfl, rfl⟩ := take_ok (m := .pin) rfl hb h0 (lt_lim (by omega) (by omega)) (Q := fun t outs => ∃ v b', BgOk b' ∧ 0 ≤ v ∧ v < n ∧ t = .dat (.int v) ∧ outs = [.own .pin (bgT b'), .val (.int n)]) (fun r t' r0 r1 ht => by
    obtain ⟨b', rfl, h'⟩ := bg_of ht
    exact ⟨r, b', h', r0, r1, rfl, rfl⟩)
  exact ⟨v, b', h1, h2, h3, e⟩
end
section
variable {b : Bag} {md : Md}
noncomputable def five (v : Int) (x0 x1 x2 x3 x4 : PyData) : PyData := if v = 0 then x0 else if v = 1 then x1 else if v = 2 then x2 else if v = 3 then x3 else x4
theorem sub5 {x0 x1 x2 x3 x4 : PyData} {v : Int} (h0 : 0 ≤ v) (h5 : v < 5) : subD (.list [x0, x1, x2, x3, x4]) (.int v) = some (five v x0 x1 x2 x3 x4) := by
  have : v = 0 ∨ v = 1 ∨ v = 2 ∨ v = 3 ∨ v = 4 := by omega
  rcases this with rfl | rfl | rfl | rfl | rfl <;> rfl
end
end SH

end

section
set_option Elab.async false
set_option linter.all false
set_option maxRecDepth 100000
set_option maxHeartbeats 2000000
namespace SH
open PySem PySem.Spec PyProof.Rows L2 VL SM SP
section
variable {z s : Int} {x y x' : S} {p p' : Past} {md : Md} {n N : Nat} {g : Bg} {rest : Rho} {t u : Tr} {b : Bag}
end
end SH

end

section
set_option Elab.async false
set_option linter.all false
set_option maxRecDepth 100000
set_option maxHeartbeats 2000000
namespace SH
open PySem PySem.Spec PyProof.Rows L2 VL SM SP
theorem run_rt {n : Nat} {g : MS} {args ρ' : Rho} {t : Tr} (h : g (entry n args) = some (.rt t ρ')) : runF n g args = some (.ret t, ρ'.take args.length) := by
  unfold runF
  rw [h]
section
variable {z s : Int} {x y x' : S} {p p' : Past} {md : Md} {n N : Nat} {g : Bg} {rest : Rho} {t u : Tr} {b : Bag}
end
end SH

end

section
set_option Elab.async false
set_option linter.all false
set_option maxRecDepth 100000
set_option maxHeartbeats 2000000
namespace SH
open PySem PySem.Spec PyProof.Rows L2 VL SM SP
section
variable {z s : Int} {x y x' : S} {p p' : Past} {md : Md} {n N : Nat} {g : Bg} {rest : Rho} {t u : Tr} {b : Bag}
end
end SH

end

section
set_option Elab.async false
set_option linter.all false
set_option maxRecDepth 100000
set_option maxHeartbeats 2000000
namespace SH
open PySem PySem.Spec PyProof.Rows L2 VL SM SP
noncomputable def x0 : S := ⟨0, true, 0, [], [], [], []⟩
section
variable {z s : Int} {x y x' : S} {p p' : Past} {md : Md} {n N : Nat} {g : Bg} {rest : Rho} {t u : Tr} {b : Bag} {c : Cl} {d : PyData}
theorem e_bag {ns : List Int} {i : Nat} (hi : i ≤ 40) : ∃ b outs, BgOk b ∧ fBag [.val (scrD ns), .val (.int (i : Nat))] = some (.ret (bgT b), outs) := by
  obtain ⟨t, outs, e, h⟩ := bag_ok (ns := ns) hi (Q := fun t _ => BagT t) (fun t h => h)
  obtain ⟨b, rfl, hb⟩ := bg_of h
  exact ⟨b, outs, hb, e⟩
end
end SH

end

section
set_option Elab.async false
set_option linter.all false
set_option maxRecDepth 100000
namespace SP
open PySem PySem.Spec PyProof.Rows L2 VL SM
inductive JH {α : Type} (D : α → PyData) (ds : List α) (es : List α) : Rho → Prop where
  | mk {t : Tr} {a : Sl} (ht : BagT t) (ha : frB (some a) = true) : JH D ds es [.own .pin t, .val (.list (ds.map D)), .own .free (tr (es.map D)), a]
end SP

end

section
set_option Elab.async false
set_option linter.all false
set_option maxRecDepth 100000
set_option maxHeartbeats 2000000
namespace SH
open PySem PySem.Spec PyProof.Rows L2 VL SM SP
noncomputable def FrL (vs : List Sl) : Prop := ∀ v ∈ vs, frB (some v) = true
theorem FrL.nil : FrL [] := fun _ h => nomatch h
theorem FrL.cons {v : Sl} {vs : List Sl} (h : frB (some v) = true) (t : FrL vs) : FrL (v :: vs) := fun w hw => by
  rcases List.mem_cons.mp hw with rfl | hw
  · exact h
  · exact t w hw
theorem FrL.hd {v : Sl} {vs : List Sl} (h : FrL (v :: vs)) : frB (some v) = true := h v (List.mem_cons_self ..)
theorem FrL.tl {v : Sl} {vs : List Sl} (h : FrL (v :: vs)) : FrL vs := fun w hw => h w (List.mem_cons_of_mem _ hw)
theorem for_ok {fi : M (List PyData)} {g : MG} {b : MS} {ρ ρ1 : Rho} {ds : List PyData} {r : Option Out} (h : fi ρ = some (.ok ds ρ1)) (l : loopF g b ds ρ1 = r) : sFor fi g b ρ = r := by
  unfold sFor sE
  rw [h]
  exact l
theorem loop_cons {g : MG} {b : MS} {d : PyData} {ds : List PyData} {ρ ρ1 ρ2 : Rho} (h : g d ρ = some ρ1) (e : b ρ1 = some (.nx ρ2)) : loopF g b (d :: ds) ρ = loopF g b ds ρ2 := by
  show (match g d ρ with
    | none => none
    | some ρ1 => match b ρ1 with
      | some (.nx ρ2) => loopF g b ds ρ2
      | some (.ct ρ2) => loopF g b ds ρ2
      | some (.bk ρ2) => some (.nx ρ2)
      | o => o) = _
  rw [h]
  show (match b ρ1 with
      | some (.nx ρ2) => loopF g b ds ρ2
      | some (.ct ρ2) => loopF g b ds ρ2
      | some (.bk ρ2) => some (.nx ρ2)
      | o => o) = _
  rw [e]
theorem cell_range {ns : List Int} {c : Int} {m : Nat} {vs : List Sl} (em : (1 + (if c < ((ns.length : Nat) : Int) then c else ((ns.length : Nat) : Int)) : Int) = (m : Int)) (hm : m < 100000) : iRange1 (aCons (cBin addD (cD (.int 1)) (cCall min2D (aCons (cCall lenD (aCons (cVar 0) aNil)) (aCons (cD (.int c)) aNil)))) aNil) (.val (scrD ns) :: vs) = some (.ok ((List.range' 0 m).map fun k => .int (0 + (k : Nat))) (.val (scrD ns) :: vs)) := by
  have ls : lenD [scrD ns] = some (.int (ns.length : Nat)) := by
    unfold scrD
    show some (PyData.int (List.length _)) = _
    rw [List.length_map]
  rw [← List.range_eq_range']
  refine rng1 ?_ hm
  simp! only [setSl, List.replicate, pinS, Md.unb, VR.ap_fld1, VR.ap_pFld, VR.ap_pKey, VR.ap_keyT1, ls, min2, em]
theorem rng2 {f : M (List Rv)} {ρ ρ1 : Rho} {n : Nat} (h : f ρ = some (.ok [.d (.int (n : Nat))] ρ1)) (hn : n < 100000) : iRange1 f ρ = some (.ok ((List.range n).map fun k => .int (0 + (k : Nat))) ρ1) := by
  unfold iRange1 bnd
  rw [h]
  show (if -(2 ^ 62) ≤ ((n : Nat) : Int) ∧ ((n : Nat) : Int) < 2 ^ 62 then some (Er.ok (rangeD 0 ((n : Nat) : Int).toNat) _) else none) = _
  rw [if_pos (by omega)]
  rfl
end SH

end

section
set_option Elab.async false
set_option linter.all false
set_option maxRecDepth 100000
set_option maxHeartbeats 2000000
namespace SH
open PySem PySem.Spec PyProof.Rows L2 VL SM SP
theorem r_set {i : Nat} {f : M Rv} {ρ ρ1 : Rho} {d : PyData} (h : f ρ = some (.ok (.d d) ρ1)) (hs : frB (ρ1[i]?) = true) : sSet i f ρ = some (.nx (ρ1.set i (.val d))) := by
  simp! only [List.replicate, pinS, Md.unb, VR.ap_fld1, VR.ap_pFld, VR.ap_pKey, VR.ap_keyT1, h, setSl_f, hs]
theorem r_setN {i : Nat} {f : M Tr} {ρ ρ1 : Rho} {t : Tr} (h : f ρ = some (.ok t ρ1)) (hs : frB (ρ1[i]?) = true) : sSetN i f ρ = some (.nx (ρ1.set i (.own .free t))) := by
  simp! only [List.replicate, pinS, Md.unb, VR.ap_fld1, VR.ap_pFld, VR.ap_pKey, VR.ap_keyT1, h, setSl_f, hs]
theorem r_cmp {g : PyData → PyData → Option Bool} {f1 f2 : M Rv} {ρ ρ1 ρ2 : Rho} {d e : PyData} {r : Bool} (h1 : f1 ρ = some (.ok (.d d) ρ1)) (h2 : f2 ρ1 = some (.ok (.d e) ρ2)) (h : g d e = some r) : cCmp g f1 f2 ρ = some (.ok r ρ2) := by
  simp! only [setSl, List.replicate, pinS, Md.unb, VR.ap_fld1, VR.ap_pFld, VR.ap_pKey, VR.ap_keyT1, h1, h2, h]
theorem r_bin {g : PyData → PyData → Option PyData} {f1 f2 : M Rv} {ρ ρ1 ρ2 : Rho} {d e r : PyData} (h1 : f1 ρ = some (.ok (.d d) ρ1)) (h2 : f2 ρ1 = some (.ok (.d e) ρ2)) (h : g d e = some r) : cBin g f1 f2 ρ = some (.ok (.d r) ρ2) := by
  simp! only [setSl, List.replicate, pinS, Md.unb, VR.ap_fld1, VR.ap_pFld, VR.ap_pKey, VR.ap_keyT1, h1, h2, h]
theorem r_call1 {g : List PyData → Option PyData} {f : M Rv} {ρ ρ1 : Rho} {d r : PyData} (h1 : f ρ = some (.ok (.d d) ρ1)) (h : g [d] = some r) : cCall g (aCons f aNil) ρ = some (.ok (.d r) ρ1) := by
  simp! only [setSl, List.replicate, pinS, Md.unb, VR.ap_fld1, VR.ap_pFld, VR.ap_pKey, VR.ap_keyT1, h1, h]
theorem r_var {i : Nat} {ρ : Rho} {d : PyData} (h : ρ[i]? = some (.val d)) : cVar i ρ = some (.ok (.d d) ρ) := by
  rw [VR.ap_cVar, h]
  rfl
theorem r_seq {i : Nat} {ρ : Rho} {ds : List PyData} (h : ρ[i]? = some (.val (.list ds))) : iSeq (cVar i) ρ = some (.ok ds ρ) := by
  unfold iSeq bnd
  rw [r_var h]
  rfl
theorem r_seqF {f : M Rv} {ρ ρ1 : Rho} {ds : List PyData} (h : f ρ = some (.ok (.d (.list ds)) ρ1)) : iSeq f ρ = some (.ok ds ρ1) := by
  unfold iSeq bnd
  rw [h]
  rfl
theorem r_frz {f : M Tr} {ρ ρ1 : Rho} {t : Tr} {d : PyData} (h : f ρ = some (.ok t ρ1)) (td : t.toD = some d) : cFrz f ρ = some (.ok (.d d) ρ1) := by
  unfold cFrz bnd
  rw [h]
  show (match t.toD with
    | some d => some (Er.ok (Rv.d d) ρ1)
    | none => none) = _
  rw [td]
theorem r_rng {j n : Nat} {ρ : Rho} (h : ρ[j]? = some (.val (.int (n : Nat)))) (hn : n < 100000) : iRange1 (aCons (cVar j) aNil) ρ = some (.ok ((List.range n).map fun i => .int (0 + (i : Nat))) ρ) := by
  refine rng2 ?_ hn
  have : cVar j ρ = some (.ok (.d (.int (n : Nat))) ρ) := r_var h
  simp! only [setSl, List.replicate, pinS, Md.unb, VR.ap_fld1, VR.ap_pFld, VR.ap_pKey, VR.ap_keyT1, -VR.ap_cVar, this]
theorem r_comp {α : Type} {D : α → PyData} {ds : List α} {v : Nat} {fi : M (List PyData)} {te : M Rv} {ρ : Rho} {s : Sl} (f : α → PyData) (hi : fi ρ = some (.ok (ds.map D) ρ)) (hl : ds.length ≤ 16777216) (hv : ρ[v]? = some s) (hs : unown s = true)
    (he : ∀ d ∈ ds, te (ρ.set v (.val (D d))) = some (.ok (.d (f d)) (ρ.set v (.val (D d))))) : nComp fi [v] (gN v) tYesM te ρ = some (.ok (.lst ((ds.map f).map .dat)) ρ) := by
  have c := comp_eq (D := D) (ds := ds) (fi := fi) (v := v) (tt := tYesM) (te := te) (ρ := ρ) (s := s) (fun _ => true) f hi hl hv hs (fun _ _ => rfl) (fun d hd _ => he d hd)
  rw [List.filter_eq_self.mpr fun _ _ => rfl] at c
  exact c
theorem r_compD {α : Type} {D : α → PyData} {ds : List α} {v : Nat} {fi : M (List PyData)} {te : M Rv} {ρ : Rho} {s : Sl} (f : α → PyData) (hi : fi ρ = some (.ok (ds.map D) ρ)) (hl : ds.length ≤ 16777216) (hv : ρ[v]? = some s) (hs : unown s = true)
    (he : ∀ d ∈ ds, te (ρ.set v (.val (D d))) = some (.ok (.d (f d)) (ρ.set v (.val (D d))))) : cFrz (nComp fi [v] (gN v) tYesM te) ρ = some (.ok (.d (.list (ds.map f))) ρ) := r_frz (r_comp f hi hl hv hs he) toD_ds
theorem r_compT {α : Type} {D : α → PyData} {ds : List α} {v : Nat} {fi : M (List PyData)} {tt : M Bool} {te : M Rv} {ρ : Rho} {s : Sl} (p : α → Bool) (f : α → PyData) (hi : fi ρ = some (.ok (ds.map D) ρ)) (hl : ds.length ≤ 16777216) (hv : ρ[v]? = some s) (hs : unown s = true)
    (ht : ∀ d ∈ ds, tt (ρ.set v (.val (D d))) = some (.ok (p d) (ρ.set v (.val (D d))))) (he : ∀ d ∈ ds, p d = true → te (ρ.set v (.val (D d))) = some (.ok (.d (f d)) (ρ.set v (.val (D d))))) : cFrz (nComp fi [v] (gN v) tt te) ρ = some (.ok (.d (.list ((ds.filter p).map f))) ρ) := r_frz (comp_eq p f hi hl hv hs ht he) toD_ds
theorem r_compG {fi : M (List PyData)} {vs : List Nat} {G : MG} {tt : M Bool} {te : M Rv} {ρ ρ1 : Rho} {xs ds : List PyData} (hi : fi ρ = some (.ok xs ρ)) (hn : noOwn ρ vs = true) (hg : compGo vs G tt te xs [] (wipeR ρ vs) = some (ds, ρ1)) (hn1 : noOwn ρ1 vs = true) (hr : restR ρ ρ1 vs = ρ) : nComp fi vs G tt te ρ = some (.ok (.lst (ds.map .dat)) ρ) :=
  of_okM (okM_comp (okM_eq hi ⟨hn, (ds, ρ1), hg, hn1, rfl, hr⟩))
theorem r_asg {G : MG} {f : M Rv} {ρ ρ1 ρ2 : Rho} {d : PyData} (h : f ρ = some (.ok (.d d) ρ1)) (g : G d ρ1 = some ρ2) : sAsg G f ρ = some (.nx ρ2) := by
  simp! only [setSl, List.replicate, pinS, Md.unb, VR.ap_fld1, VR.ap_pFld, VR.ap_pKey, VR.ap_keyT1, h, g]
theorem r_gT2 {i j : Nat} {a b : PyData} {ρ : Rho} (hi : frB (ρ[i]?) = true) (hj : frB ((ρ.set i (.val a))[j]?) = true) : VL.gT 2 (gsC (gN i) (gsC (gN j) gsN)) (.tuple [a, b]) ρ = some ((ρ.set i (.val a)).set j (.val b)) := by
  have h1 : gN i a ρ = some (ρ.set i (.val a)) := setSl_f hi
  have h2 : gN j b (ρ.set i (.val a)) = some ((ρ.set i (.val a)).set j (.val b)) := setSl_f hj
  show (if (2 : Nat) = 2 then gsC (gN i) (gsC (gN j) gsN) [a, b] ρ else none) = _
  rw [if_pos rfl]
  simp only [gsC, h1, h2, gsN]
theorem r_loop {α : Type} {D : α → PyData} {g : MG} {b : MS} (J : List α → Rho → Prop) : ∀ (ds : List α) (dn : List α) (ρ : Rho), J dn ρ → (∀ dn d ρ, d ∈ ds → J dn ρ → ∃ ρ1 ρ2, g (D d) ρ = some ρ1 ∧ b ρ1 = some (.nx ρ2) ∧ J (dn ++ [d]) ρ2) → ∃ ρ', loopF g b (ds.map D) ρ = some (.nx ρ') ∧ J (dn ++ ds) ρ'
  | [], dn, ρ, h, _ => ⟨ρ, rfl, by rw [List.append_nil]; exact h⟩
  | d :: ds, dn, ρ, h, st => by
    obtain ⟨ρ1, ρ2, e1, e2, h2⟩ := st dn d ρ List.mem_cons_self h
    obtain ⟨ρ', e3, h3⟩ := r_loop J ds (dn ++ [d]) ρ2 h2 fun dn d ρ hd => st dn d ρ (List.mem_cons_of_mem _ hd)
    refine ⟨ρ', ?_, by rw [List.append_assoc] at h3; exact h3⟩
    rw [List.map_cons, loop_cons e1 e2]
    exact e3
theorem r_for {α : Type} {D : α → PyData} {fi : M (List PyData)} {g : MG} {b : MS} {ρ ρ0 : Rho} {ds : List α} (J : List α → Rho → Prop) (hi : fi ρ = some (.ok (ds.map D) ρ0)) (h : J [] ρ0) (st : ∀ dn d ρ, d ∈ ds → J dn ρ → ∃ ρ1 ρ2, g (D d) ρ = some ρ1 ∧ b ρ1 = some (.nx ρ2) ∧ J (dn ++ [d]) ρ2) : ∃ ρ', sFor fi g b ρ = some (.nx ρ') ∧ J ds ρ' := by
  obtain ⟨ρ', e, h'⟩ := r_loop (D := D) J ds [] ρ0 h st
  exact ⟨ρ', for_ok hi e, h'⟩
end SH

end

section
set_option Elab.async false
set_option linter.all false
set_option maxRecDepth 100000
namespace VL
open PySem PySem.Spec PyProof.Rows L2
section
variable {X : Cx} {T T1 T2 T3 T4 T5 : List Nat} {W : WV} {K : Fg}
variable {fa fb : M Rv} {a b : Expr} {pos : Pos}
end
section
variable {X : Cx} {T T1 T2 T3 T4 T5 : List Nat} {W : WV} {K : Fg} {o i e : Expr} {pos tpos : Pos} {fp1 : M (Nat × List Nat)} {fi fe : M Rv}
end
section
variable {X : Cx} {T : List Nat} {W : WV} {K : Fg} {pos p : Pos} {e : Expr} {fs : M (List Rv)}
end
end VL

end

section
set_option Elab.async false
set_option linter.all false
set_option maxRecDepth 100000
namespace SXD
open PySem PySem.Spec PyProof.Rows L2 VL SM SN
end SXD

end

section
set_option Elab.async false
set_option linter.all false
namespace DV
noncomputable def Part (L : List Int) (D : Nat) : Prop := ∃ gs : List (List Int), gs.length = D ∧ gs.flatten.Perm L ∧ ∀ g ∈ gs, g ≠ [] ∧ g.sum = 0
theorem Part.map {f : Int → Int} {L : List Int} {D : Nat} (h0 : ∀ g : List Int, (∀ x ∈ g, x ∈ L) → g.sum = 0 → (g.map f).sum = 0) (h : Part L D) : Part (L.map f) D := by
  obtain ⟨gs, a, b, c⟩ := h
  refine ⟨gs.map (·.map f), by rw [List.length_map, a], ?_, fun g hg => ?_⟩
  · rw [← List.map_flatten]
    exact b.map f
  · obtain ⟨g', h1, rfl⟩ := List.mem_map.mp hg
    obtain ⟨h2, h3⟩ := c g' h1
    exact ⟨by simpa using h2, h0 g' (fun x hx => b.mem_iff.mp (List.mem_flatten.mpr ⟨g', h1, hx⟩)) h3⟩
noncomputable def bit (S k : Nat) : Nat := S / 2 ^ k % 2
noncomputable def sumS : List Int → Nat → Int
  | [], _ => 0
  | x :: xs, S => (if S % 2 = 1 then x else 0) + sumS xs (S / 2)
theorem sumS_snoc : ∀ (N : List Int) (x : Int) (S : Nat), S < 2 ^ N.length → sumS (N ++ [x]) S = sumS N S ∧ sumS (N ++ [x]) (2 ^ N.length + S) = sumS N S + x
  | [], x, S, h => by
    have : S = 0 := by simpa using h
    subst this
    simp [sumS]
  | y :: N, x, S, h => by
    rw [List.length_cons, Nat.pow_succ] at h
    obtain ⟨a, b⟩ := sumS_snoc N x (S / 2) (by omega)
    simp only [List.cons_append, List.length_cons]
    unfold sumS
    rw [a, show (2 ^ (N.length + 1) + S) / 2 = 2 ^ N.length + S / 2 by rw [Nat.pow_succ]; omega, b, show (2 ^ (N.length + 1) + S) % 2 = S % 2 by rw [Nat.pow_succ]; omega]
    refine ⟨rfl, by omega⟩
noncomputable def sumP (N : List Int) (l : List Nat) : Int := (l.map fun k => N[k]?.getD 0).sum
noncomputable def zS (N : List Int) (S : Nat) : Nat := if sumS N S = 0 then 1 else 0
structure Best (N : List Int) (best : Nat → Nat) : Prop where
  zero : best 0 = 0
  some : ∀ S, 0 < S → S < 2 ^ N.length → ∃ k, k < N.length ∧ bit S k = 1 ∧ best S = best (S - 2 ^ k) + zS N S
  all : ∀ S, 0 < S → S < 2 ^ N.length → ∀ k, k < N.length → bit S k = 1 → best (S - 2 ^ k) + zS N S ≤ best S
section
variable {N : List Int} {best : Nat → Nat} (b : Best N best)
include b
end
structure GI (N : List Int) (best : Nat → Nat) (S : Nat) (G : List (List Nat)) : Prop where
  lt : S < 2 ^ N.length
  nd : G.flatten.Nodup
  inn : ∀ k ∈ G.flatten, k < N.length
  mem : ∀ k, k < N.length → (bit S k = 1 ↔ k ∉ G.flatten)
  ct : G.length + best S = best (2 ^ N.length - 1)
  grp : (G = [] ∧ sumS N S = 0) ∨ ∃ G' g, G = G' ++ [g] ∧ g ≠ [] ∧ (∀ h ∈ G', h ≠ [] ∧ sumP N h = 0) ∧ sumP N g + sumS N S = 0
structure GE (N : List Int) (B : Nat) (G : List (List Nat)) : Prop where
  ct : G.length = B
  nd : G.flatten.Nodup
  mem : ∀ k, k ∈ G.flatten ↔ k < N.length
  grp : ∀ g ∈ G, g ≠ [] ∧ sumP N g = 0
end DV

end

section
set_option Elab.async false
set_option linter.all false
set_option maxRecDepth 100000
set_option maxHeartbeats 2000000
namespace DQ
open PySem PySem.Spec PyProof.Rows L2 VL SM SP SH SXD
noncomputable abbrev iD (xs : List Int) : PyData := .list (xs.map .int)
noncomputable abbrev iT (xs : List Int) : Tr := .lst ((xs.map PyData.int).map .dat)
theorem it_i {i : Nat} {ρ : Rho} {xs : List Int} (h : ρ[i]? = some (.val (iD xs))) : iSeq (cVar i) ρ = some (.ok (xs.map PyData.int) ρ) := by
  unfold iSeq bnd
  rw [VR.ap_cVar, h]
  rfl
theorem frz_of {f : M Tr} {ρ ρ1 : Rho} {t : Tr} {d : PyData} (h : f ρ = some (.ok t ρ1)) (td : t.toD = some d) : cFrz f ρ = some (.ok (.d d) ρ1) := by
  unfold cFrz bnd
  rw [h]
  show (match t.toD with
    | some d => some (Er.ok (Rv.d d) ρ1)
    | none => none) = _
  rw [td]
theorem addI {xs ys : List Int} (h : xs.length + ys.length ≤ 1000000) : addD (iD xs) (iD ys) = some (iD (xs ++ ys)) := by
  show (if small ((xs.map PyData.int).length + (ys.map PyData.int).length) then some (PyData.list (xs.map PyData.int ++ ys.map PyData.int)) else none) = _
  rw [if_pos (small_of (by simp; omega)), ← List.map_append]
noncomputable def sumsF (f : List Int) : List Int → List Int
  | [] => f
  | x :: N => sumsF (f ++ f.map (· + x)) N
theorem sumsF_snoc : ∀ (N : List Int) (f : List Int) (x : Int), sumsF f (N ++ [x]) = sumsF f N ++ (sumsF f N).map (· + x)
  | [], _, _ => rfl
  | y :: N, f, x => sumsF_snoc N (f ++ f.map (· + y)) x
theorem rev_ind {α : Type} {P : List α → Prop} (h0 : P []) (hs : ∀ xs x, P xs → P (xs ++ [x])) (xs : List α) : P xs := by
  have : ∀ ys : List α, P ys.reverse := fun ys => by
    induction ys with
    | nil => exact h0
    | cons y ys ih => rw [List.reverse_cons]; exact hs _ _ ih
  have := this xs.reverse
  rwa [List.reverse_reverse] at this
theorem sumsF_eq : ∀ N : List Int, sumsF [0] N = (List.range (2 ^ N.length)).map (DV.sumS N) := rev_ind (by rfl) fun N x ih => by
  rw [sumsF_snoc, ih, List.length_append, List.length_singleton, Nat.pow_succ, Nat.mul_two, List.range_add, List.map_append, List.map_map, List.map_map]
  congr 1
  · exact List.map_congr_left fun S hS => (DV.sumS_snoc N x S (List.mem_range.mp hS)).1.symm
  · exact List.map_congr_left fun S hS => (DV.sumS_snoc N x S (List.mem_range.mp hS)).2.symm
noncomputable abbrev sums (N : List Int) : List Int := (List.range (2 ^ N.length)).map (DV.sumS N)
theorem sums_body {N f : List Int} {x : Int} (hf : f.length ≤ 100000) : b_sums_of_0 [.val (iD N), .val (iD f), .val (.int x), .no] = some (.nx [.val (iD N), .val (iD (f ++ f.map (· + x))), .val (.int x), .no]) := by
  have c := comp_eq (D := PyData.int) (ds := f) (v := 3) (s := .no) (ρ := [.val (iD N), .val (iD f), .val (.int x), .no]) (tt := tYesM) (te := cBin addD (cVar 3) (cVar 2)) (fun _ => true) (fun y => .int (y + x)) (it_i (i := 1) rfl) (by omega) rfl rfl (fun _ _ => rfl) (fun y _ _ => by
    show cBin addD _ _ [.val (iD N), .val (iD f), .val (.int x), .val (.int y)] = some (Er.ok _ [.val (iD N), .val (iD f), .val (.int x), .val (.int y)])
    simp! only [setSl, List.replicate, pinS, Md.unb, VR.ap_fld1, VR.ap_pFld, VR.ap_pKey, VR.ap_keyT1])
  rw [List.filter_eq_self.mpr fun _ _ => rfl] at c
  have td := toD_ds (ds := f.map fun y => PyData.int (y + x))
  have fz := frz_of c td
  have e : PyData.list (f.map fun y => PyData.int (y + x)) = iD (f.map (· + x)) := by simp
  rw [e] at fz
  have ad := addI (xs := f) (ys := f.map (· + x)) (by simp; omega)
  unfold b_sums_of_0
  generalize cFrz (nComp (iSeq (cVar 1)) [3] (gN 3) tYesM (cBin addD (cVar 3) (cVar 2))) = g at fz ⊢
  simp! only [setSl, List.replicate, pinS, Md.unb, VR.ap_fld1, VR.ap_pFld, VR.ap_pKey, VR.ap_keyT1, fz, ad]
theorem sums_loop {N : List Int} : ∀ (r f : List Int) (v2 : Sl), f.length * 2 ^ r.length ≤ 100000 → frB (some v2) = true → ∃ w2, loopF (gN 2) b_sums_of_0 (r.map PyData.int) [.val (iD N), .val (iD f), v2, .no] = some (.nx [.val (iD N), .val (iD (sumsF f r)), w2, .no])
  | [], f, v2, _, _ => ⟨v2, rfl⟩
  | x :: r, f, v2, hl, h2 => by
    rw [List.length_cons, Nat.pow_succ] at hl
    have hp := Nat.two_pow_pos r.length
    have l1 : f.length ≤ 100000 := by
      have : f.length * 1 ≤ f.length * (2 ^ r.length * 2) := Nat.mul_le_mul_left _ (by omega)
      omega
    obtain ⟨w2, ih⟩ := sums_loop (N := N) r (f ++ f.map (· + x)) (.val (.int x)) (by
      have e : (f ++ f.map (· + x)).length = f.length * 2 := by simp; omega
      rw [e, Nat.mul_assoc, Nat.mul_comm 2]
      exact hl) rfl
    exact ⟨w2, by rw [List.map_cons, loop_cons (setSl_f h2) (sums_body l1)]; exact ih⟩
theorem e_sums {N : List Int} (hN : N.length ≤ 16) : ∃ outs, F_sums_of [.val (iD N)] = some (.ret (.dat (iD (sums N))), outs) := by
  have hp : 2 ^ N.length ≤ 2 ^ 16 := Nat.pow_le_pow_right (by decide) hN
  obtain ⟨w2, lp⟩ := sums_loop (N := N) N [0] .no (by show 1 * 2 ^ N.length ≤ 100000; omega) rfl
  rw [sumsF_eq] at lp
  refine ⟨[.val (iD N)], (run_rt (t := .dat (iD (sums N))) (ρ' := [.val (iD N), .val (iD (sums N)), w2, .no]) ?_).trans rfl⟩
  unfold g_sums_of
  show sSeq _ _ [.val (iD N), .no, .no, .no] = _
  rw [seq_nx (show sSet 1 (cFrz (nLst (aCons (cD (.int 0)) aNil))) [.val (iD N), .no, .no, .no] = some (.nx [.val (iD N), .val (iD [0]), .no, .no]) from rfl), seq_nx (for_ok (it_i (i := 0) rfl) lp)]
  rfl
noncomputable abbrev nI (B : List Nat) : List Int := B.map fun b : Nat => (b : Int)
noncomputable def bS (B : List Nat) (S : Nat) : Nat := B[S]?.getD 0
structure Upto (N : List Int) (B : List Nat) (m : Nat) : Prop where
  zero : bS B 0 = 0
  some : ∀ S, 0 < S → S < m → ∃ k, k < N.length ∧ DV.bit S k = 1 ∧ bS B S = bS B (S - 2 ^ k) + DV.zS N S
  all : ∀ S, 0 < S → S < m → ∀ k, k < N.length → DV.bit S k = 1 → bS B (S - 2 ^ k) + DV.zS N S ≤ bS B S
end DQ

end

section
set_option Elab.async false
set_option linter.all false
namespace MT
variable {α : Type} [DecidableEq α]
noncomputable abbrev Mt (α : Type) := α → Option α
section
variable {near : α → List α} {U : List α}
structure Sn (U sn sn' : List α) : Prop where
  nd : sn'.Nodup
  sub : ∀ x ∈ sn', x ∈ U
  inc : ∀ x ∈ sn, x ∈ sn'
structure Fa (near : α → List α) (M : Mt α) (l sn : List α) (M' : Mt α) (sn' : List α) : Prop where
  e : M' = M
  inc : ∀ x ∈ sn, x ∈ sn'
  nr : ∀ x ∈ l, x ∈ sn'
  cl : ∀ o ∈ sn', o ∉ sn → ∃ e, M o = some e ∧ ∀ x ∈ near e, x ∈ sn'
structure Mok (near : α → List α) (M : Mt α) : Prop where
  inj : ∀ o o' e, M o = some e → M o' = some e → o = o'
  adj : ∀ o e, M o = some e → o ∈ near e
structure Tu (near : α → List α) (M : Mt α) (s : α) (sn : List α) (M' : Mt α) : Prop where
  old : ∀ o ∈ sn, M' o = M o
  adj : ∀ o e, M' o = some e → o ∈ near e
  dom : ∃ p, p ∉ sn ∧ M p = none ∧ (∃ e, M' p = some e) ∧ ∀ o, o ≠ p → (M' o).isSome = (M o).isSome
  rng : ∀ e, (∃ o, o ∉ sn ∧ M' o = some e) ↔ e = s ∨ ∃ o, o ∉ sn ∧ M o = some e
  inj : ∀ o o' e, o ∉ sn → o' ∉ sn → M' o = some e → M' o' = some e → o = o'
end
end MT

end

section
set_option Elab.async false
set_option linter.all false
set_option maxRecDepth 100000
set_option maxHeartbeats 2000000
namespace DQ
open PySem PySem.Spec PyProof.Rows L2 VL SM SP SH SXD
noncomputable abbrev gT (G : List (List Nat)) : Tr := .lst (G.map fun g => iT (nI g))
section
variable {N : List Int} {B : List Nat} {S : Nat} {G : List (List Nat)} {v6 v7 : Sl}
end
end DQ

end

section
set_option Elab.async false
set_option linter.all false
set_option maxRecDepth 100000
set_option maxHeartbeats 2000000
namespace DQ
open PySem PySem.Spec PyProof.Rows L2 VL SM SP SH SXD
section
variable {κ : Type} [DecidableEq κ]
theorem lookP_put {P : List (κ × PyData)} {o x : κ} {d : PyData} : lookP (putP P o d) x = if x = o then some d else lookP P x := by
  unfold putP
  split
  · rename_i h
    unfold lookP
    induction P with
    | nil => simp at h
    | cons p P ih =>
      rw [List.map_cons]
      by_cases hp : p.1 = o
      · by_cases hx : x = o
        · rw [if_pos hx, List.find?_cons_of_pos (by simp [hp, hx])]
          simp [hp]
        · rw [if_neg hx, List.find?_cons_of_neg (by simp [hp]; exact fun z => hx z.symm), List.find?_cons_of_neg (by simp [hp]; exact fun z => hx z.symm)]
          clear ih h
          congr 1
          induction P with
          | nil => rfl
          | cons r P ih2 =>
            rw [List.map_cons]
            by_cases hr : r.1 = o
            · rw [List.find?_cons_of_neg (by simp [hr]; exact fun z => hx z.symm), List.find?_cons_of_neg (by simp [hr]; exact fun z => hx z.symm)]
              exact ih2
            · rw [if_neg hr]
              by_cases hrx : r.1 = x
              · rw [List.find?_cons_of_pos (by simp [hrx]), List.find?_cons_of_pos (by simp [hrx])]
              · rw [List.find?_cons_of_neg (by simp [hrx]), List.find?_cons_of_neg (by simp [hrx])]
                exact ih2
      · rw [if_neg hp]
        have h' : (P.any fun p => decide (p.1 = o)) = true := by
          rw [List.any_cons] at h
          simpa [hp] using h
        by_cases hpx : p.1 = x
        · rw [List.find?_cons_of_pos (by simp [hpx]), List.find?_cons_of_pos (by simp [hpx]), if_neg (by rw [← hpx]; exact hp)]
        · rw [List.find?_cons_of_neg (by simp [hpx]), List.find?_cons_of_neg (by simp [hpx])]
          exact ih h'
  · rename_i h
    have hn : ∀ p ∈ P, p.1 ≠ o := fun p hp e => h (List.any_eq_true.mpr ⟨p, hp, by simp [e]⟩)
    unfold lookP
    rw [List.find?_append]
    by_cases hx : x = o
    · subst hx
      rw [if_pos rfl, List.find?_eq_none.mpr fun p hp => by simp [hn p hp]]
      simp
    · rw [if_neg hx]
      cases hf : P.find? (fun p => decide (p.1 = x)) with
      | some p => rfl
      | none =>
        have h2 : ¬ o = x := fun z => hx z.symm
        simp [h2]
theorem putP_len {P : List (κ × PyData)} {o : κ} {d : PyData} : (putP P o d).length ≤ P.length + 1 := by
  unfold putP
  split <;> simp
theorem dats_toT : ∀ {P : List (κ × PyData)}, dats (toT P) = some P
  | [] => rfl
  | p :: P => by
    show (dats (toT P)).map ((p.1, p.2) :: ·) = _
    rw [dats_toT]
    rfl
theorem getK_toT {o : κ} : ∀ {P : List (κ × PyData)}, getK (toT P) o = (lookP P o).map .dat
  | [] => rfl
  | p :: P => by
    have ih := getK_toT (o := o) (P := P)
    unfold getK lookP toT at ih ⊢
    rw [List.map_cons]
    by_cases h : p.1 = o
    · rw [List.find?_cons_of_pos (by simp [h]), List.find?_cons_of_pos (by simp [h])]
      rfl
    · rw [List.find?_cons_of_neg (by simp [h]), List.find?_cons_of_neg (by simp [h])]
      exact ih
end
noncomputable abbrev QL := List (Key × PyData)
noncomputable abbrev kT (Q : QL) : Tr := .dk (toT Q)
noncomputable def rowD (r : Nat × Nat × Int) : PyData := .tuple [.int (r.1 : Nat), .int (r.2.1 : Nat), .int r.2.2]
noncomputable abbrev rT (R : List (Nat × Nat × Int)) : Tr := .lst ((R.map rowD).map .dat)
noncomputable abbrev env10 (d0 d1 : PyData) (Q : QL) (xs ys : List Nat) (R : List (Nat × Nat × Int)) (v7 v8 v9 : Sl) : Rho := [.val d0, .val d1, .own .free (kT Q), .no, .own .free (iT (nI xs)), .own .free (iT (nI ys)), .own .free (rT R), v7, v8, v9]
section
variable {d0 d1 : PyData} {Q : QL} {xs ys : List Nat} {R : List (Nat × Nat × Int)} {v7 v8 v9 : Sl} {x y : Nat} {a b c : Int}
end
end DQ

end

section
set_option Elab.async false
set_option linter.all false
set_option maxRecDepth 100000
set_option maxHeartbeats 2000000
namespace SH
open PySem PySem.Spec PyProof.Rows L2 VL SM SP DQ
section
variable {i : Nat} {ρ : Rho}
theorem p_own {m : Md} {t : Tr} (h : ρ[i]? = some (.own m t)) : pVar i ρ = some (.ok (i, []) ρ) := by
  unfold pVar
  rw [h]
theorem t_own {m : Md} {t : Tr} (h : ρ[i]? = some (.own m t)) : treeAt ρ (i, []) = some t := by
  unfold treeAt
  rw [h]
  rfl
theorem m_own {t : Tr} (h : ρ[i]? = some (.own .free t)) : modeOk ρ i = true := by
  unfold modeOk
  rw [h]
theorem s_own {t : Tr} (h : ρ[i]? = some (.own .free t)) (t' : Tr) : VL.putAt ρ (i, []) t' = ρ.set i (.own .free t') := by
  unfold VL.putAt
  rw [h]
  rfl
theorem at_dt {E : List (List Key × PyData)} {k : PyData} {kk : List Key} (h : keyT k = some kk) : dictAt (.dt (toT E)) k = some (lookP E kk) := by
  show (match keyT k with
    | some kk => (match getK (toT E) kk with
      | none => some none
      | some (.dat e) => some (some e)
      | some _ => none)
    | none => none) = _
  rw [h]
  show (match getK (toT E) kk with
      | none => some none
      | some (.dat e) => some (some e)
      | some _ => none) = _
  rw [getK_toT]
  cases lookP E kk <;> rfl
theorem at_dk {E : List (Key × PyData)} {k : PyData} {kk : Key} (h : keyD k = some kk) : dictAt (.dk (toT E)) k = some (lookP E kk) := by
  show (match keyD k with
    | some kk => (match getK (toT E) kk with
      | none => some none
      | some (.dat e) => some (some e)
      | some _ => none)
    | none => none) = _
  rw [h]
  show (match getK (toT E) kk with
      | none => some none
      | some (.dat e) => some (some e)
      | some _ => none) = _
  rw [getK_toT]
  cases lookP E kk <;> rfl
theorem bnd_ok {α β : Type} {f : M α} {k : α → M β} {ρ ρ1 : Rho} {a : α} (h : f ρ = some (.ok a ρ1)) : bnd f k ρ = k a ρ1 := by
  unfold bnd
  rw [h]
theorem sE_ok {α : Type} {f : M α} {k : α → MS} {ρ ρ1 : Rho} {a : α} (h : f ρ = some (.ok a ρ1)) : sE f k ρ = k a ρ1 := by
  unfold sE
  rw [h]
theorem r_dget2 {m : Md} {t : Tr} {fk fx : M Rv} {k u : PyData} {z : Option PyData} (h : ρ[i]? = some (.own m t)) (hd : isDk (some t) = true) (hk : fk ρ = some (.ok (.d k) ρ)) (hx : fx ρ = some (.ok (.d u) ρ)) (ha : dictAt t k = some z) :
    cDGet2 [] (pVar i) fk fx ρ = some (.ok (.d (z.getD u)) ρ) := by
  unfold cDGet2
  rw [bnd_ok (p_own h), t_own h, if_pos hd, bnd_ok hk, bnd_ok hx]
  unfold dGet2
  rw [if_neg (by simp), t_own h]
  show (match dictAt t k with
    | some z => some (Er.ok (Rv.d (z.getD u)) ρ)
    | none => none) = _
  rw [ha]
theorem r_dget {m : Md} {t : Tr} {fk : M Rv} {k z : PyData} (h : ρ[i]? = some (.own m t)) (hk : fk ρ = some (.ok (.d k) ρ)) (ha : dictAt t k = some (some z)) :
    cDGet [] (pVar i) fk ρ = some (.ok (.d z) ρ) := by
  unfold cDGet
  rw [bnd_ok (p_own h), bnd_ok hk]
  unfold dGet1
  rw [if_neg (by simp), t_own h]
  show (match dictAt t k with
    | some (some z) => some (Er.ok (Rv.d z) ρ)
    | _ => none) = _
  rw [ha]
theorem r_dputT {fe fk : M Rv} {d k : PyData} {kk : List Key} {E : List (List Key × PyData)} (h : ρ[i]? = some (.own .free (.dt (toT E)))) (he : fe ρ = some (.ok (.d d) ρ)) (hk : fk ρ = some (.ok (.d k) ρ)) (hkk : keyT k = some kk) (hs : E.length ≤ 100000) :
    VL.sDPut [] fe (pVar i) fk ρ = some (.nx (ρ.set i (.own .free (.dt (toT (putP E kk d)))))) := by
  unfold VL.sDPut
  rw [sE_ok he]
  show (sE (pVar i) fun r => sE fk (dPut1 [] d r)) ρ = _
  rw [sE_ok (p_own h), sE_ok hk]
  unfold dPut1
  rw [if_neg (by rw [m_own h]; simp), t_own h]
  show (match keyT k, dats (toT E) with
    | some k, some ds => if small (ds.length + 1) then some (Out.nx (VL.putAt ρ (i, []) (.dt (toT (putP ds k d))))) else none
    | _, _ => none) = _
  rw [hkk, dats_toT (P := E)]
  show (if small (E.length + 1) then some (Out.nx (VL.putAt ρ (i, []) (.dt (toT (putP E kk d))))) else none) = _
  rw [if_pos (small_of (by omega)), s_own h]
theorem r_dputK {fe fk : M Rv} {d k : PyData} {kk : Key} {E : List (Key × PyData)} (h : ρ[i]? = some (.own .free (.dk (toT E)))) (he : fe ρ = some (.ok (.d d) ρ)) (hk : fk ρ = some (.ok (.d k) ρ)) (hkk : keyD k = some kk) (hs : E.length ≤ 100000) :
    VL.sDPut [] fe (pVar i) fk ρ = some (.nx (ρ.set i (.own .free (.dk (toT (putP E kk d)))))) := by
  unfold VL.sDPut
  rw [sE_ok he]
  show (sE (pVar i) fun r => sE fk (dPut1 [] d r)) ρ = _
  rw [sE_ok (p_own h), sE_ok hk]
  unfold dPut1
  rw [if_neg (by rw [m_own h]; simp), t_own h]
  show (match keyD k, dats (toT E) with
    | some k, some ds => if small (ds.length + 1) then some (Out.nx (VL.putAt ρ (i, []) (.dk (toT (putP ds k d))))) else none
    | _, _ => none) = _
  rw [hkk, dats_toT (P := E)]
  show (if small (E.length + 1) then some (Out.nx (VL.putAt ρ (i, []) (.dk (toT (putP E kk d))))) else none) = _
  rw [if_pos (small_of (by omega)), s_own h]
end
section
variable {κ : Type} [DecidableEq κ]
theorem look_mem {E : List (κ × PyData)} (nd : (E.map (·.1)).Nodup) {k : κ} {d : PyData} : lookP E k = some d ↔ (k, d) ∈ E := by
  unfold lookP
  constructor
  · intro h
    obtain ⟨p, hp, e⟩ := Option.map_eq_some_iff.mp h
    have h1 := List.mem_of_find?_eq_some hp
    have h2 := List.find?_some hp
    have h2 : p.1 = k := by simpa using h2
    subst h2; subst e
    exact h1
  · intro h
    induction E with
    | nil => cases h
    | cons p E ih =>
      rw [List.map_cons, List.nodup_cons] at nd
      rcases List.mem_cons.mp h with e | h
      · subst e
        rw [List.find?_cons_of_pos (by simp)]
        rfl
      · have : p.1 ≠ k := fun e => nd.1 (by rw [e]; exact List.mem_map.mpr ⟨_, h, rfl⟩)
        rw [List.find?_cons_of_neg (by simpa using this)]
        exact ih nd.2 h
theorem nd_pairs {E : List (κ × PyData)} (nd : (E.map (·.1)).Nodup) : E.Nodup := List.Pairwise.of_map (·.1) (fun a b h e => h (by rw [e])) nd
theorem look_perm {E F : List (κ × PyData)} (h1 : (E.map (·.1)).Nodup) (h2 : (F.map (·.1)).Nodup) (h : ∀ k, lookP E k = lookP F k) : E.Perm F := by
  refine (List.perm_ext_iff_of_nodup ?_ ?_).mpr fun p => ?_
  · exact nd_pairs h1
  · exact nd_pairs h2
  · obtain ⟨k, d⟩ := p
    rw [← look_mem h1, ← look_mem h2, h]
theorem putP_keys {E : List (κ × PyData)} {k : κ} {d : PyData} : (putP E k d).map (·.1) = if k ∈ E.map (·.1) then E.map (·.1) else E.map (·.1) ++ [k] := by
  unfold putP
  have e : (E.any fun kv => decide (kv.1 = k)) = decide (k ∈ E.map (·.1)) := by
    rw [Bool.eq_iff_iff, List.any_eq_true, decide_eq_true_eq, List.mem_map]
    constructor
    · rintro ⟨p, hp, h⟩
      exact ⟨p, hp, by simpa using h⟩
    · rintro ⟨p, hp, h⟩
      exact ⟨p, hp, by simpa using h⟩
  rw [e]
  by_cases h : k ∈ E.map (·.1)
  · rw [if_pos (by simpa using h), if_pos h, List.map_map]
    refine List.map_congr_left fun p _ => ?_
    show (if p.1 = k then (p.1, d) else p).1 = p.1
    split <;> rfl
  · rw [if_neg (by simpa using h), if_neg h, List.map_append]
    rfl
theorem putP_nd {E : List (κ × PyData)} {k : κ} {d : PyData} (nd : (E.map (·.1)).Nodup) : ((putP E k d).map (·.1)).Nodup := by
  rw [putP_keys]
  split
  · exact nd
  · rename_i h
    rw [List.nodup_append]
    exact ⟨nd, by simp, fun a ha b hb e => h (by rw [← List.mem_singleton.mp hb, ← e]; exact ha)⟩
end
end SH

end

section
set_option Elab.async false
set_option linter.all false
set_option maxRecDepth 100000
set_option maxHeartbeats 2000000
namespace K37
open PySem PySem.Spec PyProof.Rows L2 VL SM SN SP SH DQ
noncomputable abbrev Dl := PC.Dl
noncomputable abbrev dsD (ds : List Dl) : PyData := .list (ds.map PC.Dl.D)
noncomputable def toST (d : Dl) : ST.Dl := ⟨d.s, d.b, d.p, d.c, d.m⟩
variable {ds : List Dl} {n : Nat}
theorem lots_ST : ST.lots (ds.map toST) = PC.lots ds := by
  funext i
  unfold ST.lots PC.lots
  rw [List.map_map]
  rfl
theorem coins_ST : ST.coins (ds.map toST) = PC.coins ds := by
  funext i
  unfold ST.coins PC.coins
  rw [List.map_map]
  rfl
noncomputable abbrev rws (n : Nat) (ds : List Dl) : List PyData := ST.rowsD n (PC.lots ds) (PC.coins ds)
theorem td_tr {xs : List PyData} : Tr.toD (tr xs) = some (.list xs) := toD_ds
theorem st_ok (h : ∀ d ∈ ds, PC.DlOk n d) : ∀ d ∈ ds.map toST, ST.DlOk n d := fun d hd => by
  obtain ⟨q, hq, rfl⟩ := List.mem_map.mp hd
  have ok := h q hq
  have c1 := ok.c1
  exact ⟨ok.s0, ok.s1, ok.b0, ok.b1, ok.p0, ok.p1, by show (0 : Int) ≤ (q.c : Int); omega, by show ((q.c : Nat) : Int) ≤ _; omega⟩
theorem f_stands (hn : n ≤ 100) (h : ∀ d ∈ ds, PC.DlOk n d) : ∃ o, SM.F_stands [.val (.int (n : Nat)), .val (dsD ds)] = some (.ret (tr (rws n ds)), o) := by
  have e2 : dsD ds = .list ((ds.map toST).map ST.Dl.D) := by
    rw [List.map_map]
    rfl
  obtain ⟨t, o, e, rfl⟩ := ST.stands_ok (n := n) (ds := ds.map toST) hn (st_ok h) (Q := fun t _ => t = tr (rws n ds)) fun _ => by rw [lots_ST, coins_ST]
  exact ⟨o, by rw [e2]; exact e⟩
noncomputable abbrev stt (i : Int) (ds : List Dl) : PC.St := PC.pcs 0 PC.st0 (PC.sortR (PC.rowsOf i ds))
theorem f_pieces {i : Int} (hl : ds.length ≤ 1000) (h : ∀ d ∈ ds, PC.DlOk n d) : ∃ o, SM.F_pieces [.val (dsD ds), .val (.int i)] = some (.ret (PC.toldT (stt i ds)), o) ∧ (stt i ds).cl.length + (stt i ds).op.length ≤ 2000 := by
  obtain ⟨t, o, e, rfl, z⟩ := PC.pieces_ok (n := n) (i := i) hl h (Q := fun t _ => t = PC.toldT (stt i ds) ∧ (stt i ds).cl.length + (stt i ds).op.length ≤ 2000) fun _ v => ⟨rfl, v.len⟩
  exact ⟨o, e, z⟩
theorem f_gain {i x : Int} (hl : ds.length ≤ 1000) (h : ∀ d ∈ ds, PC.DlOk n d) (x0 : 0 ≤ x) (x1 : x ≤ 1000000000) : ∃ o, SM.F_gain [.val (dsD ds), .val (.int i), .val (.int x)] = some (.ret (.dat (.int (PC.coins ds i + x * PC.lots ds i))), o) := by
  obtain ⟨t, o, e, rfl⟩ := PC.gain_ok (n := n) (i := i) (x := x) hl h x0 x1 (Q := fun t _ => t = .dat (.int (PC.coins ds i + x * PC.lots ds i))) fun _ => rfl
  exact ⟨o, e⟩
noncomputable abbrev clK (a b : Int) (w : Str) : List Key := [.inl a, .inl b, .inr w]
noncomputable def ClE (e : List Key × PyData) : Prop := ∃ a b w k, e = (clK a b w, .int k) ∧ (w = s_had ∨ w = s_owed)
theorem look_in {κ : Type} [DecidableEq κ] {E : List (κ × PyData)} {k : κ} {d : PyData} (h : lookP E k = some d) : ∃ k', (k', d) ∈ E := by
  unfold lookP at h
  obtain ⟨p, hp, e⟩ := Option.map_eq_some_iff.mp h
  subst e
  exact ⟨p.1, List.mem_of_find?_eq_some hp⟩
theorem look_int {E : List (List Key × PyData)} (h : ∀ e ∈ E, ClE e) (k : List Key) : ∃ v : Int, (lookP E k).getD (.int 0) = .int v := by
  cases q : lookP E k with
  | none => exact ⟨0, rfl⟩
  | some d =>
    obtain ⟨k', hm⟩ := look_in q
    obtain ⟨a, b, w, v, e, _⟩ := h _ hm
    cases e
    exact ⟨v, rfl⟩
theorem put_all {E : List (List Key × PyData)} (h : ∀ e ∈ E, ClE e) {a b v : Int} {w : Str} (hw : w = s_had ∨ w = s_owed) : ∀ e ∈ putP E (clK a b w) (.int v), ClE e := fun e he => by
  unfold putP at he
  split at he
  · obtain ⟨p, hp, rfl⟩ := List.mem_map.mp he
    split
    · rename_i q
      exact ⟨a, b, w, v, by rw [q], hw⟩
    · exact h p hp
  · rcases List.mem_append.mp he with he | he
    · exact h e he
    · rw [List.mem_singleton.mp he]
      exact ⟨a, b, w, v, rfl, hw⟩
noncomputable abbrev env10 (D C L : PyData) (t3 t8 v4 v5 v6 v7 v9 : Sl) : Rho := [.val D, .val C, .val L, t3, v4, v5, v6, v7, t8, v9]
noncomputable def wS (b : Bool) : Str := if b then s_had else s_owed
theorem wS_or {b : Bool} : wS b = s_had ∨ wS b = s_owed := by
  unfold wS
  cases b
  · exact .inr rfl
  · exact .inl rfl
theorem s_body1 {D C L : PyData} {t8 v9 : Sl} {E : List (List Key × PyData)} (h : ∀ e ∈ E, ClE e) (hl : E.length ≤ 10000) {e p k : Int} {w : Bool} :
    ∃ E' : List (List Key × PyData), (∀ e ∈ E', ClE e) ∧ E'.length ≤ E.length + 1 ∧ b__law_sums_1 (env10 D C L (.own .free (.dt (toT E))) t8 (.val (.int e)) (.val (.int p)) (.val (.int k)) (.val (.str (wS w))) v9) = some (.nx (env10 D C L (.own .free (.dt (toT E'))) t8 (.val (.int e)) (.val (.int p)) (.val (.int k)) (.val (.str (wS w))) v9)) := by
  obtain ⟨v, hv⟩ := look_int h (clK e p (wS w))
  refine ⟨putP E (clK e p (wS w)) (.int (v + k)), put_all h wS_or, putP_len, ?_⟩
  have ck : ∀ ρ : Rho, ρ = env10 D C L (.own .free (.dt (toT E))) t8 (.val (.int e)) (.val (.int p)) (.val (.int k)) (.val (.str (wS w))) v9 → cTup (aCons (cVar 4) (aCons (cVar 5) (aCons (cVar 7) aNil))) ρ = some (.ok (.d (.tuple [.int e, .int p, .str (wS w)])) ρ) := fun ρ e => by
    subst e
    simp! only [setSl, List.replicate, pinS, Md.unb, VR.ap_fld1, VR.ap_pFld, VR.ap_pKey, VR.ap_keyT1]
  have kt : keyT (.tuple [.int e, .int p, .str (wS w)]) = some (clK e p (wS w)) := rfl
  have g := r_dget2 (i := 3) (m := .free) (t := .dt (toT E)) (fk := cTup (aCons (cVar 4) (aCons (cVar 5) (aCons (cVar 7) aNil)))) (fx := cD (.int 0)) (ρ := env10 D C L (.own .free (.dt (toT E))) t8 (.val (.int e)) (.val (.int p)) (.val (.int k)) (.val (.str (wS w))) v9) rfl rfl (ck _ rfl) rfl (at_dt (E := E) kt)
  rw [hv] at g
  exact r_dputT (E := E) rfl (r_bin g (r_var rfl) rfl) (ck _ rfl) kt (by omega)
theorem s_loop1 {D C L : PyData} {t8 v9 : Sl} : ∀ (cl : List PC.Cl) (E : List (List Key × PyData)) (v4 v5 v6 v7 : Sl), (∀ e ∈ E, ClE e) → E.length + cl.length ≤ 10000 → frB (some v4) = true → frB (some v5) = true → frB (some v6) = true → frB (some v7) = true →
    ∃ E' w4 w5 w6 w7, (∀ e ∈ E', ClE e) ∧ E'.length ≤ E.length + cl.length ∧ (frB (some w4) = true ∧ frB (some w5) = true ∧ frB (some w6) = true ∧ frB (some w7) = true) ∧
      loopF (VL.gT 4 (gsC (gN 4) (gsC (gN 5) (gsC (gN 6) (gsC (gN 7) gsN))))) b__law_sums_1 (cl.map PC.Cl.D) (env10 D C L (.own .free (.dt (toT E))) t8 v4 v5 v6 v7 v9) = some (.nx (env10 D C L (.own .free (.dt (toT E'))) t8 w4 w5 w6 w7 v9))
  | [], E, v4, v5, v6, v7, h, _, h4, h5, h6, h7 => ⟨E, v4, v5, v6, v7, h, by simp, ⟨h4, h5, h6, h7⟩, rfl⟩
  | c :: cl, E, v4, v5, v6, v7, h, hl, h4, h5, h6, h7 => by
    rw [List.length_cons] at hl
    obtain ⟨E1, a1, a2, a3⟩ := s_body1 (D := D) (C := C) (L := L) (t8 := t8) (v9 := v9) h (by omega) (e := c.e) (p := c.p) (k := c.n) (w := c.w)
    obtain ⟨E2, w4, w5, w6, w7, b1, b2, b3, b4⟩ := s_loop1 (D := D) (C := C) (L := L) (t8 := t8) (v9 := v9) cl E1 (.val (.int c.e)) (.val (.int c.p)) (.val (.int c.n)) (.val (.str (wS c.w))) a1 (by omega) rfl rfl rfl rfl
    refine ⟨E2, w4, w5, w6, w7, b1, by rw [List.length_cons]; omega, b3, ?_⟩
    have g : VL.gT 4 (gsC (gN 4) (gsC (gN 5) (gsC (gN 6) (gsC (gN 7) gsN)))) c.D (env10 D C L (.own .free (.dt (toT E))) t8 v4 v5 v6 v7 v9) = some (env10 D C L (.own .free (.dt (toT E))) t8 (.val (.int c.e)) (.val (.int c.p)) (.val (.int c.n)) (.val (.str (wS c.w))) v9) := by
      show VL.gT 4 (gsC (gN 4) (gsC (gN 5) (gsC (gN 6) (gsC (gN 7) gsN)))) (.tuple [.int c.e, .int c.p, .int c.n, .str (wS c.w)]) _ = _
      simp! only [List.replicate, pinS, Md.unb, VR.ap_fld1, VR.ap_pFld, VR.ap_pKey, VR.ap_keyT1, setSl_f, h4, h5, h6, h7]
    rw [List.map_cons, loop_cons g a3]
    exact b4
structure OpE (op : List PC.Op) (F : List (Key × PyData)) : Prop where
  nd : (F.map (·.1)).Nodup
  lk : ∀ p : Int, lookP F (.inl p) = if p ∈ op.map (·.p) then some (.int (PC.tot op p : Nat)) else none
  ky : ∀ e ∈ F, ∃ p v : Int, e = (.inl p, .int v)
  len : F.length ≤ op.length
theorem tot_snoc {op : List PC.Op} {o : PC.Op} {p : Int} : PC.tot (op ++ [o]) p = PC.tot op p + if o.p = p then o.c else 0 := by
  unfold PC.tot
  simp [List.sum_append]
theorem tot_none {op : List PC.Op} {p : Int} (h : p ∉ op.map (·.p)) : PC.tot op p = 0 := by
  induction op with
  | nil => rfl
  | cons o op ih =>
    rw [List.map_cons, List.mem_cons] at h
    show (if o.p = p then o.c else 0) + PC.tot op p = 0
    rw [ih fun z => h (.inr z), if_neg fun z => h (.inl z.symm)]
theorem OpE.snoc {op : List PC.Op} {F : List (Key × PyData)} (h : OpE op F) (o : PC.Op) : OpE (op ++ [o]) (putP F (.inl o.p) (.int ((PC.tot op o.p : Nat) + (o.c : Int)))) := by
  refine ⟨putP_nd h.nd, fun p => ?_, fun e he => ?_, ?_⟩
  · rw [lookP_put, tot_snoc, List.map_append, List.map_singleton]
    by_cases q : p = o.p
    · rw [if_pos (by rw [q]), if_pos (List.mem_append_right _ (List.mem_singleton.mpr q)), if_pos q.symm, q]
      rfl
    · rw [if_neg (by intro z; cases z; exact q rfl), h.lk]
      have q2 : ¬ o.p = p := fun z => q z.symm
      by_cases m : p ∈ op.map (·.p)
      · rw [if_pos m, if_pos (List.mem_append_left _ m), if_neg q2]
        rfl
      · rw [if_neg m, if_neg fun z => (List.mem_append.mp z).elim m fun z => q (List.mem_singleton.mp z)]
  · unfold putP at he
    split at he
    · obtain ⟨x, hx, rfl⟩ := List.mem_map.mp he
      split
      · rename_i q
        exact ⟨o.p, _, by rw [q]⟩
      · exact h.ky x hx
    · rcases List.mem_append.mp he with he | he
      · exact h.ky e he
      · rw [List.mem_singleton.mp he]
        exact ⟨_, _, rfl⟩
  · have := putP_len (P := F) (o := (.inl o.p : Key)) (d := .int ((PC.tot op o.p : Nat) + (o.c : Int)))
    have := h.len
    rw [List.length_append, List.length_singleton]
    omega
theorem OpE.get {op : List PC.Op} {F : List (Key × PyData)} (h : OpE op F) (p : Int) : (lookP F (.inl p)).getD (.int 0) = .int (PC.tot op p : Nat) := by
  rw [h.lk]
  split
  · rfl
  · rename_i q
    rw [tot_none q]
    rfl
theorem s_body0 {D C L : PyData} {t3 v4 v5 v7 : Sl} {op : List PC.Op} {F : List (Key × PyData)} (h : OpE op F) (hl : op.length ≤ 10000) {o : PC.Op} :
    b__law_sums_0 (env10 D C L t3 (.own .free (.dk (toT F))) v4 v5 (.val (.int o.c)) v7 (.val (.int o.p))) = some (.nx (env10 D C L t3 (.own .free (.dk (toT (putP F (.inl o.p) (.int ((PC.tot op o.p : Nat) + (o.c : Int))))))) v4 v5 (.val (.int o.c)) v7 (.val (.int o.p)))) := by
  have g := r_dget2 (i := 8) (m := .free) (t := .dk (toT F)) (fk := cVar 9) (fx := cD (.int 0)) (ρ := env10 D C L t3 (.own .free (.dk (toT F))) v4 v5 (.val (.int o.c)) v7 (.val (.int o.p))) rfl rfl (r_var rfl) rfl (at_dk (E := F) (k := .int o.p) rfl)
  rw [h.get] at g
  exact r_dputK (E := F) rfl (r_bin g (r_var rfl) rfl) (r_var rfl) rfl (by have := h.len; omega)
theorem s_loop0 {D C L : PyData} {t3 v4 v5 v7 : Sl} : ∀ (op dn : List PC.Op) (F : List (Key × PyData)) (v6 v9 : Sl), OpE dn F → dn.length + op.length ≤ 10000 → frB (some v6) = true → frB (some v9) = true →
    ∃ F' w6 w9, OpE (dn ++ op) F' ∧ (frB (some w6) = true ∧ frB (some w9) = true) ∧
      loopF (VL.gT 2 (gsC (gN 9) (gsC (gN 6) gsN))) b__law_sums_0 (op.map PC.Op.D) (env10 D C L t3 (.own .free (.dk (toT F))) v4 v5 v6 v7 v9) = some (.nx (env10 D C L t3 (.own .free (.dk (toT F'))) v4 v5 w6 v7 w9))
  | [], dn, F, v6, v9, h, _, h6, h9 => ⟨F, v6, v9, by rw [List.append_nil]; exact h, ⟨h6, h9⟩, rfl⟩
  | o :: op, dn, F, v6, v9, h, hl, h6, h9 => by
    rw [List.length_cons] at hl
    obtain ⟨F2, w6, w9, b1, b2, b3⟩ := s_loop0 (D := D) (C := C) (L := L) (t3 := t3) (v4 := v4) (v5 := v5) (v7 := v7) op (dn ++ [o]) _ (.val (.int o.c)) (.val (.int o.p)) (h.snoc o) (by rw [List.length_append, List.length_singleton]; omega) rfl rfl
    refine ⟨F2, w6, w9, by rw [List.append_assoc] at b1; exact b1, b2, ?_⟩
    have g : VL.gT 2 (gsC (gN 9) (gsC (gN 6) gsN)) o.D (env10 D C L t3 (.own .free (.dk (toT F))) v4 v5 v6 v7 v9) = some (env10 D C L t3 (.own .free (.dk (toT F))) v4 v5 (.val (.int o.c)) v7 (.val (.int o.p))) := by
      show VL.gT 2 (gsC (gN 9) (gsC (gN 6) gsN)) (.tuple [.int o.p, .int o.c]) _ = _
      simp! only [List.replicate, pinS, Md.unb, VR.ap_fld1, VR.ap_pFld, VR.ap_pKey, VR.ap_keyT1, setSl_f, h6, h9]
    rw [List.map_cons, loop_cons g (s_body0 h (by omega))]
    exact b3
theorem sortL_perm {xs ys : List (Int × Int)} (h : xs.Perm ys) : sortL (xs.map fun p => .tuple [.int p.1, .int p.2]) = sortL (ys.map fun p => .tuple [.int p.1, .int p.2]) := by
  have e : ∀ zs : List (Int × Int), sortL (zs.map fun p => .tuple [.int p.1, .int p.2]) = (zs.mergeSort (PySem.W.dataLe false fun p : Int × Int => .tuple [.int p.1, .int p.2])).map fun p => .tuple [.int p.1, .int p.2] := fun zs =>
    (List.map_mergeSort (r := PySem.W.dataLe false fun p : Int × Int => .tuple [.int p.1, .int p.2]) (s := PySem.W.dataLe false id) (f := fun p : Int × Int => .tuple [.int p.1, .int p.2]) (l := zs) (fun a _ b _ => rfl)).symm
  rw [e, e]
  congr 1
  have le : (PySem.W.dataLe false fun p : Int × Int => .tuple [.int p.1, .int p.2]) = fun p q : Int × Int => decide (p.1 < q.1 ∨ (p.1 = q.1 ∧ p.2 ≤ q.2)) := PySem.W.dataLe_ii (fun p : Int × Int => p.1) (fun p => p.2)
  rw [le]
  have tr : ∀ a b c : Int × Int, decide (a.1 < b.1 ∨ (a.1 = b.1 ∧ a.2 ≤ b.2)) = true → decide (b.1 < c.1 ∨ (b.1 = c.1 ∧ b.2 ≤ c.2)) = true → decide (a.1 < c.1 ∨ (a.1 = c.1 ∧ a.2 ≤ c.2)) = true := fun a b c h1 h2 => by
    simp only [decide_eq_true_eq] at *
    omega
  have to : ∀ a b : Int × Int, (decide (a.1 < b.1 ∨ (a.1 = b.1 ∧ a.2 ≤ b.2)) || decide (b.1 < a.1 ∨ (b.1 = a.1 ∧ b.2 ≤ a.2))) = true := fun a b => by
    simp only [Bool.or_eq_true, decide_eq_true_eq]
    omega
  refine List.Perm.eq_of_pairwise (le := fun p q : Int × Int => decide (p.1 < q.1 ∨ (p.1 = q.1 ∧ p.2 ≤ q.2)) = true) (fun a b _ _ h1 h2 => ?_) (List.pairwise_mergeSort (le := fun p q : Int × Int => decide (p.1 < q.1 ∨ (p.1 = q.1 ∧ p.2 ≤ q.2))) tr to xs) (List.pairwise_mergeSort (le := fun p q : Int × Int => decide (p.1 < q.1 ∨ (p.1 = q.1 ∧ p.2 ≤ q.2))) tr to ys) ((List.mergeSort_perm _ _).trans (h.trans (List.mergeSort_perm _ _).symm))
  simp only [decide_eq_true_eq] at h1 h2
  exact Prod.ext (by omega) (by omega)
theorem ent_pairs : ∀ {F : List (Key × PyData)}, (∀ e ∈ F, ∃ p v : Int, e = (.inl p, .int v)) → ∃ ps : List (Int × Int), F = ps.map fun p => (.inl p.1, .int p.2)
  | [], _ => ⟨[], rfl⟩
  | e :: F, h => by
    obtain ⟨p, v, rfl⟩ := h e List.mem_cons_self
    obtain ⟨ps, e2⟩ := ent_pairs (F := F) fun x hx => h x (List.mem_cons_of_mem _ hx)
    exact ⟨(p, v) :: ps, by rw [e2]; rfl⟩
noncomputable def opn (F : List (Key × PyData)) : PyData := .list (sortL ((F.map fun p => ((.inl p.1 : KK), p.2)).map itD))
theorem opn_ints {ps : List (Int × Int)} : opn (ps.map fun p => (.inl p.1, .int p.2)) = .list (sortL (ps.map fun p => .tuple [.int p.1, .int p.2])) := by
  unfold opn
  rw [List.map_map, List.map_map]
  rfl
theorem opn_same {op oq : List PC.Op} {F G : List (Key × PyData)} (h1 : OpE op F) (h2 : OpE oq G) (ht : ∀ p, PC.tot op p = PC.tot oq p) (hm : ∀ p, p ∈ op.map (·.p) ↔ p ∈ oq.map (·.p)) : opn F = opn G := by
  have pm : F.Perm G := look_perm h1.nd h2.nd fun k => by
    cases k with
    | inl p =>
      rw [h1.lk, h2.lk, ht p]
      by_cases m : p ∈ op.map (·.p)
      · rw [if_pos m, if_pos ((hm p).mp m)]
      · rw [if_neg m, if_neg fun z => m ((hm p).mpr z)]
    | inr x =>
      have none : ∀ {op F}, OpE op F → lookP F (.inr x) = none := fun {op F} h => by
        cases q : lookP F (.inr x) with
        | none => rfl
        | some d =>
          obtain ⟨p, v, e⟩ := h.ky _ ((look_mem h.nd).mp q)
          cases e
      rw [none h1, none h2]
  obtain ⟨ps, e1⟩ := ent_pairs h1.ky
  obtain ⟨qs, e2⟩ := ent_pairs h2.ky
  subst e1; subst e2
  rw [opn_ints, opn_ints]
  have inj : ∀ {as bs : List (Int × Int)}, (as.map fun p => ((.inl p.1, .int p.2) : Key × PyData)).Perm (bs.map fun p => (.inl p.1, .int p.2)) → as.Perm bs := fun {as bs} h => by
    have := h.map fun e : Key × PyData => ((match e.1 with | .inl p => p | _ => 0), (match e.2 with | .int v => v | _ => 0))
    rw [List.map_map, List.map_map] at this
    have id' : ((fun e : Key × PyData => ((match e.1 with | .inl p => p | _ => (0 : Int)), (match e.2 with | .int v => v | _ => (0 : Int)))) ∘ fun p : Int × Int => ((.inl p.1, .int p.2) : Key × PyData)) = id := rfl
    rw [id', List.map_id, List.map_id] at this
    exact this
  rw [sortL_perm (inj pm)]
theorem sh_pair {p : Int × Int} : Sh 1 (.tuple [.int p.1, .int p.2]) := .tuple (n := 0) fun x hx => by
  simp only [List.mem_cons, List.not_mem_nil, or_false] at hx
  rcases hx with rfl | rfl <;> exact Sh.int
theorem sh_opn {op : List PC.Op} {F : List (Key × PyData)} (h : OpE op F) : Sh 2 (opn F) := by
  obtain ⟨ps, e1⟩ := ent_pairs h.ky
  subst e1
  rw [opn_ints]
  refine .list fun x hx => ?_
  unfold sortL at hx
  obtain ⟨p, _, rfl⟩ := List.mem_map.mp (List.mem_mergeSort.mp hx)
  exact sh_pair
theorem ok_opn {op : List PC.Op} {F : List (Key × PyData)} (h : OpE op F) : sortOk ((F.map fun p => ((.inl p.1 : KK), p.2)).map itD) = true := by
  obtain ⟨ps, e1⟩ := ent_pairs h.ky
  subst e1
  rw [List.map_map, List.map_map]
  have : ∀ x ∈ ps.map (fun p : Int × Int => PyData.tuple [.int p.1, .int p.2]), ∃ a b : Int, x = .tuple [.int a, .int b] := fun x hx => by
    obtain ⟨p, _, rfl⟩ := List.mem_map.mp hx
    exact ⟨_, _, rfl⟩
  show sortOk (ps.map (fun p : Int × Int => PyData.tuple [.int p.1, .int p.2])) = true
  generalize ps.map (fun p : Int × Int => PyData.tuple [.int p.1, .int p.2]) = xs at this
  unfold sortOk
  simp only [Bool.and_eq_true, Bool.or_eq_true, List.all_eq_true]
  refine ⟨⟨⟨fun x hx y hy => ?_, .inl fun x hx => ?_⟩, fun x hx => ?_⟩, fun x hx => ?_⟩
  · obtain ⟨a, b, rfl⟩ := this x hx
    obtain ⟨c, d, rfl⟩ := this y hy
    rfl
  · obtain ⟨a, b, rfl⟩ := this x hx
    rfl
  · obtain ⟨a, b, rfl⟩ := this x hx
    rfl
  · obtain ⟨a, b, rfl⟩ := this x hx
    rfl
theorem ok_cl {E : List (List Key × PyData)} (h : ∀ e ∈ E, ClE e) : sortOk ((E.map fun p => ((.inr p.1 : KK), p.2)).map itD) = true := by
  rw [List.map_map]
  have : ∀ x ∈ E.map (itD ∘ fun p => ((.inr p.1 : KK), p.2)), ∃ (a b k : Int) (w : Str), x = .tuple [.tuple [.int a, .int b, .str w], .int k] ∧ (w = s_had ∨ w = s_owed) := fun x hx => by
    obtain ⟨p, hp, rfl⟩ := List.mem_map.mp hx
    obtain ⟨a, b, w, k, rfl, hw⟩ := h p hp
    exact ⟨a, b, k, w, rfl, hw⟩
  generalize E.map (itD ∘ fun p => ((.inr p.1 : KK), p.2)) = xs at this
  unfold sortOk
  simp only [Bool.and_eq_true, Bool.or_eq_true, List.all_eq_true]
  refine ⟨⟨⟨fun x hx y hy => ?_, .inl fun x hx => ?_⟩, fun x hx => ?_⟩, fun x hx => ?_⟩
  · obtain ⟨a, b, k, w, rfl, _⟩ := this x hx
    obtain ⟨a, b, k, w, rfl, _⟩ := this y hy
    rfl
  · obtain ⟨a, b, k, w, rfl, _⟩ := this x hx
    rfl
  · obtain ⟨a, b, k, w, rfl, _⟩ := this x hx
    rfl
  · obtain ⟨a, b, k, w, rfl, hw⟩ := this x hx
    rcases hw with rfl | rfl
    · have := PC.l_had
      simp only [PyData.canLay0] at this
      simp [PyData.canLay0, PyData.canLayAll0, this]
    · have := PC.l_owed
      simp only [PyData.canLay0] at this
      simp [PyData.canLay0, PyData.canLayAll0, this]
end K37

end

section
set_option Elab.async false
set_option linter.all false
set_option maxRecDepth 100000
set_option maxHeartbeats 2000000
namespace K37
open PySem PySem.Spec PyProof.Rows L2 VL SM SN SP SH DQ
theorem r_sortIt {i : Nat} {ρ : Rho} {m : Md} {t : Tr} {es : List (KK × PyData)} (h : ρ[i]? = some (.own m t)) (he : entsD (some t) = some es) (hs : sortOk (es.map itD) = true) : cSortIt (pVar i) ρ = some (.ok (.d (.list (sortL (es.map itD)))) ρ) := by
  unfold cSortIt
  rw [bnd_ok (p_own h), t_own h]
  show (match entsD (some t) with
    | some es => if sortOk (es.map itD) then some (Er.ok (Rv.d (.list (sortL (es.map itD)))) ρ) else none
    | none => none) = _
  rw [he]
  show (if sortOk (es.map itD) then some (Er.ok (Rv.d (.list (sortL (es.map itD)))) ρ) else none) = _
  rw [if_pos hs]
theorem ents_dt {E : List (List Key × PyData)} : entsD (some (.dt (toT E))) = some (E.map fun p => (.inr p.1, p.2)) := by
  show (dats (toT E)).map _ = _
  rw [dats_toT (P := E)]
  rfl
theorem ents_dk {E : List (Key × PyData)} : entsD (some (.dk (toT E))) = some (E.map fun p => (.inl p.1, p.2)) := by
  show (dats (toT E)).map _ = _
  rw [dats_toT (P := E)]
  rfl
theorem e_sums {s : PC.St} (hl : s.cl.length + s.op.length ≤ 5000) : ∃ A F o, OpE s.op F ∧ F__law_sums [.val (PC.told s)] = some (.ret (.lst [.dat A, .dat (.str (PC.wdS s)), .dat (opn F)]), o) := by
  obtain ⟨D, eD⟩ : ∃ D, D = PC.told s := ⟨_, rfl⟩
  obtain ⟨C, eC⟩ : ∃ C, C = PyData.list (s.cl.map PC.Cl.D) := ⟨_, rfl⟩
  obtain ⟨L, eL⟩ : ∃ L, L = PyData.tuple [.str (PC.wdS s), .list (s.op.map PC.Op.D)] := ⟨_, rfl⟩
  have e : D = .tuple [C, L] := by rw [eD, eC, eL]; rfl
  have a1 : sAsg (VL.gT 2 (gsC (gN 1) (gsC (gN 2) gsN))) (cVar 0) [.val D, .no, .no, .no, .no, .no, .no, .no, .no, .no] = some (.nx [.val D, .val C, .val L, .no, .no, .no, .no, .no, .no, .no]) := by
    refine r_asg (r_var rfl) ?_
    rw [e]
    exact r_gT2 rfl rfl
  have a2 : sSetN 3 (nNew (.dt [])) [.val D, .val C, .val L, .no, .no, .no, .no, .no, .no, .no] = some (.nx (env10 D C L (.own .free (.dt (toT []))) .no .no .no .no .no .no)) := r_setN (ρ1 := [.val D, .val C, .val L, .no, .no, .no, .no, .no, .no, .no]) rfl rfl
  obtain ⟨E, w4, w5, w6, w7, b1, b2, ⟨b4, b5, b6, b7⟩, b8⟩ := s_loop1 (D := D) (C := C) (L := L) (t8 := .no) (v9 := .no) s.cl [] .no .no .no .no (fun _ h => nomatch h) (by simp; omega) rfl rfl rfl rfl
  have a3 : sFor (iSeq (cVar 1)) (VL.gT 4 (gsC (gN 4) (gsC (gN 5) (gsC (gN 6) (gsC (gN 7) gsN))))) b__law_sums_1 (env10 D C L (.own .free (.dt (toT []))) .no .no .no .no .no .no) = some (.nx (env10 D C L (.own .free (.dt (toT E))) .no w4 w5 w6 w7 .no)) := for_ok (r_seq (by rw [← eC]; rfl)) b8
  have a4 : sSetN 8 (nNew (.dk [])) (env10 D C L (.own .free (.dt (toT E))) .no w4 w5 w6 w7 .no) = some (.nx (env10 D C L (.own .free (.dt (toT E))) (.own .free (.dk (toT []))) w4 w5 w6 w7 .no)) := r_setN (ρ1 := env10 D C L (.own .free (.dt (toT E))) .no w4 w5 w6 w7 .no) rfl rfl
  obtain ⟨F, w6', w9, c1, ⟨c6, c9⟩, c2⟩ := s_loop0 (D := D) (C := C) (L := L) (t3 := .own .free (.dt (toT E))) (v4 := w4) (v5 := w5) (v7 := w7) s.op [] [] w6 .no ⟨List.nodup_nil, (fun _ => rfl), (fun _ h => nomatch h), Nat.le_refl _⟩ (by simp; omega) b6 rfl
  rw [List.nil_append] at c1
  have a5 : sFor (iSeq (cBin subD (cVar 2) (cD (.int 1)))) (VL.gT 2 (gsC (gN 9) (gsC (gN 6) gsN))) b__law_sums_0 (env10 D C L (.own .free (.dt (toT E))) (.own .free (.dk (toT []))) w4 w5 w6 w7 .no) = some (.nx (env10 D C L (.own .free (.dt (toT E))) (.own .free (.dk (toT F))) w4 w5 w6' w7 w9)) := by
    refine for_ok (r_seqF (r_bin (d := L) (r_var rfl) rfl ?_)) c2
    rw [eL]
    rfl
  have s3 := r_sortIt (i := 3) (m := .free) (ρ := env10 D C L (.own .free (.dt (toT E))) (.own .free (.dk (toT F))) w4 w5 w6' w7 w9) rfl ents_dt (ok_cl b1)
  have s8 := r_sortIt (i := 8) (m := .free) (ρ := env10 D C L (.own .free (.dt (toT E))) (.own .free (.dk (toT F))) w4 w5 w6' w7 w9) rfl ents_dk (ok_opn c1)
  have s2 : cBin subD (cVar 2) (cD (.int 0)) (env10 D C L (.own .free (.dt (toT E))) (.own .free (.dk (toT F))) w4 w5 w6' w7 w9) = some (.ok (.d (.str (PC.wdS s))) (env10 D C L (.own .free (.dt (toT E))) (.own .free (.dk (toT F))) w4 w5 w6' w7 w9)) := by
    refine r_bin (d := L) (r_var rfl) rfl ?_
    rw [eL]
    rfl
  refine ⟨.list (sortL ((E.map fun p => ((.inr p.1 : KK), p.2)).map itD)), F, [.val D], c1, ?_⟩
  rw [← eD]
  unfold F__law_sums
  refine (run_rt (ρ' := env10 D C L (.own .free (.dt (toT E))) (.own .free (.dk (toT F))) w4 w5 w6' w7 w9) ?_).trans rfl
  unfold g__law_sums
  show sSeq _ _ [.val D, .no, .no, .no, .no, .no, .no, .no, .no, .no] = _
  rw [seq_nx a1, seq_nx a2, seq_nx a3, seq_nx a4, seq_nx a5]
  generalize env10 D C L (.own .free (.dt (toT E))) (.own .free (.dk (toT F))) w4 w5 w6' w7 w9 = ρ at s3 s2 s8 ⊢
  generalize cSortIt (pVar 3) = f1 at s3 ⊢
  generalize cSortIt (pVar 8) = f2 at s8 ⊢
  generalize cBin subD (cVar 2) (cD (.int 0)) = f3 at s2 ⊢
  simp! only [setSl, List.replicate, pinS, Md.unb, VR.ap_fld1, VR.ap_pFld, VR.ap_pKey, VR.ap_keyT1, s3, s2, s8]
  rfl
noncomputable def wfl (s : PC.St) : Str := match s.op with | [] => s_nothing | _ => if s.h then s_owes else s_has
noncomputable def wds : List (Key × PyData) := [(.inr s_had, .str s_owed), (.inr s_owed, .str s_had), (.inr s_has, .str s_owes), (.inr s_owes, .str s_has), (.inr s_nothing, .str s_nothing)]
theorem wd_nd : decide (((toT wds).map (·.1)).Nodup) = true := by decide +kernel
theorem wd_cl {b : Bool} : dictAt (.dk (toT wds)) (.str (wS b)) = some (some (.str (wS (!b)))) := by
  rw [at_dk rfl]
  cases b <;> kernel_rfl
theorem wd_op {s : PC.St} : dictAt (.dk (toT wds)) (.str (PC.wdS s)) = some (some (.str (wfl s))) := by
  rw [at_dk rfl]
  obtain ⟨cl, op, h⟩ := s
  cases op with
  | nil => kernel_rfl
  | cons o op => cases h <;> kernel_rfl
noncomputable abbrev env5 (D C L : PyData) (v4 : Sl) : Rho := [.val D, .own .free (.dk (toT wds)), .val C, .val L, v4]
theorem cl_fl {c : PC.Cl} : c.fl.D = .tuple [.int c.e, .int c.p, .int c.n, .str (wS (!c.w))] := rfl
theorem e_turned {s : PC.St} (hl : s.cl.length + s.op.length ≤ 5000) : ∃ o, F__law_turned [.val (PC.told s)] = some (.ret (.tup [.lst (((s.cl.map PC.Cl.fl).map PC.Cl.D).map .dat), .dat (.tuple [.str (wfl s), .list (s.op.map PC.Op.D)])]), o) := by
  obtain ⟨D, eD⟩ : ∃ D, D = PC.told s := ⟨_, rfl⟩
  obtain ⟨C, eC⟩ : ∃ C, C = PyData.list (s.cl.map PC.Cl.D) := ⟨_, rfl⟩
  obtain ⟨L, eL⟩ : ∃ L, L = PyData.tuple [.str (PC.wdS s), .list (s.op.map PC.Op.D)] := ⟨_, rfl⟩
  have e : D = .tuple [C, L] := by rw [eD, eC, eL]; rfl
  have a1 : sSetN 1 (nDisp (dtCons (.inr s_had) (nDat (cD (.str s_owed))) (dtCons (.inr s_owed) (nDat (cD (.str s_had))) (dtCons (.inr s_has) (nDat (cD (.str s_owes))) (dtCons (.inr s_owes) (nDat (cD (.str s_has))) (dtCons (.inr s_nothing) (nDat (cD (.str s_nothing))) dtNil)))))) [.val D, .no, .no, .no, .no] = some (.nx [.val D, .own .free (.dk (toT wds)), .no, .no, .no]) := by
    refine r_setN (ρ1 := [.val D, .no, .no, .no, .no]) (t := .dk (toT wds)) ?_ rfl
    show (if decide ((toT wds).length ≤ 15) && decide (((toT wds).map (·.1)).Nodup) then some (Er.ok (Tr.dk (toT wds)) _) else none) = _
    rw [wd_nd]
    rfl
  have a2 : sAsg (VL.gT 2 (gsC (gN 2) (gsC (gN 3) gsN))) (cVar 0) [.val D, .own .free (.dk (toT wds)), .no, .no, .no] = some (.nx (env5 D C L .no)) := by
    refine r_asg (r_var rfl) ?_
    rw [e]
    exact r_gT2 rfl rfl
  have c := r_comp (D := PC.Cl.D) (ds := s.cl) (v := 4) (s := .no) (fi := iSeq (cVar 2)) (te := cBin addD (cCut (cVar 4) oNone (oSome (cD (.int 3)))) (cTup (aCons (cDGet [] (pVar 1) (cBin subD (cVar 4) (cD (.int 3)))) aNil))) (ρ := env5 D C L .no) (fun c => c.fl.D) (r_seq (by rw [← eC]; rfl)) (by omega) rfl rfl (fun c _ => by
    have g := r_dget (i := 1) (m := .free) (t := .dk (toT wds)) (fk := cBin subD (cVar 4) (cD (.int 3))) (k := .str (wS c.w)) (ρ := env5 D C L (.val c.D)) rfl (r_bin (d := c.D) (r_var rfl) rfl rfl) wd_cl
    show cBin addD _ _ (env5 D C L (.val c.D)) = some (.ok (.d c.fl.D) (env5 D C L (.val c.D)))
    have cc : cCut (cVar 4) oNone (oSome (cD (.int 3))) (env5 D C L (.val c.D)) = some (.ok (.d (.tuple [.int c.e, .int c.p, .int c.n])) (env5 D C L (.val c.D))) := rfl
    generalize env5 D C L (.val c.D) = ρ at g cc ⊢
    generalize cDGet [] (pVar 1) (cBin subD (cVar 4) (cD (.int 3))) = f1 at g ⊢
    generalize cCut (cVar 4) oNone (oSome (cD (.int 3))) = f2 at cc ⊢
    rw [cl_fl]
    have ad : addD (.tuple [.int c.e, .int c.p, .int c.n]) (.tuple [.str (wS (!c.w))]) = some (.tuple [.int c.e, .int c.p, .int c.n, .str (wS (!c.w))]) := rfl
    simp! only [setSl, List.replicate, pinS, Md.unb, VR.ap_fld1, VR.ap_pFld, VR.ap_pKey, VR.ap_keyT1, g, cc, ad])
  have g := r_dget (i := 1) (m := .free) (t := .dk (toT wds)) (fk := cBin subD (cVar 3) (cD (.int 0))) (k := .str (PC.wdS s)) (ρ := env5 D C L .no) rfl (r_bin (d := L) (r_var rfl) rfl (by rw [eL]; rfl)) wd_op
  have g2 : cBin subD (cVar 3) (cD (.int 1)) (env5 D C L .no) = some (.ok (.d (.list (s.op.map PC.Op.D))) (env5 D C L .no)) := r_bin (d := L) (r_var rfl) rfl (by rw [eL]; rfl)
  refine ⟨[.val D], ?_⟩
  rw [← eD]
  unfold F__law_turned
  refine (run_rt (ρ' := env5 D C L .no) ?_).trans rfl
  unfold g__law_turned
  show sSeq _ _ [.val D, .no, .no, .no, .no] = _
  rw [seq_nx a1, seq_nx a2]
  have e2 : s.cl.map (fun c => c.fl.D) = (s.cl.map PC.Cl.fl).map PC.Cl.D := by
    rw [List.map_map]
    rfl
  rw [e2] at c
  generalize env5 D C L .no = ρ at c g g2 ⊢
  generalize cDGet [] (pVar 1) (cBin subD (cVar 3) (cD (.int 0))) = f1 at g ⊢
  generalize cBin subD (cVar 3) (cD (.int 1)) = f2 at g2 ⊢
  generalize nComp (iSeq (cVar 2)) [4] (gN 4) tYesM _ = f3 at c ⊢
  generalize ((s.cl.map PC.Cl.fl).map PC.Cl.D).map Tr.dat = X at c ⊢
  simp! only [setSl, List.replicate, pinS, Md.unb, VR.ap_fld1, VR.ap_pFld, VR.ap_pKey, VR.ap_keyT1, c, g, g2]
  rfl
noncomputable def u4 (d : Dl) : List Int := [d.m, d.p, d.s + d.b, d.c]
noncomputable def his (i : Int) (d : Dl) : Bool := decide (d.s = i) || decide (d.b = i)
theorem in_pair {i a b : Int} : inD (.int i) (.tuple [.int a, .int b]) = some (decide (a = i) || decide (b = i)) := by
  show (if SeqAt.shaped (.int i) && SeqAt.shaped (.tuple [.int a, .int b]) then some ([PyData.int a, .int b].any fun z => PyData.eqv z (.int i)) else none) = _
  rw [(Sh.int (n := 1)).ok (by decide), (sh_pair (p := (a, b))).ok (by decide)]
  show some ([PyData.int a, .int b].any fun z => PyData.eqv z (.int i)) = _
  refine congrArg some ?_
  rw [Bool.eq_iff_iff]
  simp [PyData.eqv]
theorem irows {ds : List Dl} : intRows (ds.map fun d => .tuple [.int d.m, .int d.p, .int (d.s + d.b), .int d.c]) = some (ds.map u4) := by
  induction ds with
  | nil => rfl
  | cons d ds ih =>
    rw [List.map_cons, List.map_cons]
    show (match intRow (.tuple [.int d.m, .int d.p, .int (d.s + d.b), .int d.c]), intRows (ds.map fun d => .tuple [.int d.m, .int d.p, .int (d.s + d.b), .int d.c]) with
      | some k, some ks => some (k :: ks)
      | _, _ => none) = _
    rw [ih]
    rfl
theorem e_unlike {ds : List Dl} {i : Int} (hl : ds.length ≤ 60) : ∃ o, F__law_unlike [.val (dsD ds), .val (.int i)] = some (.ret (.dat (.bool (decide (((ds.filter (his i)).map u4).Nodup)))), o) := by
  have c := r_compT (D := PC.Dl.D) (ds := ds) (v := 3) (s := .no) (fi := iSeq (cVar 0)) (tt := cCmp inD (cVar 1) (cCut (cVar 3) oNone (oSome (cD (.int 2))))) (te := cTup (aCons (cBin subD (cVar 3) (cD (.int 4))) (aCons (cBin subD (cVar 3) (cD (.int 2))) (aCons (cBin addD (cBin subD (cVar 3) (cD (.int 0))) (cBin subD (cVar 3) (cD (.int 1)))) (aCons (cBin subD (cVar 3) (cD (.int 3))) aNil))))) (ρ := [.val (dsD ds), .val (.int i), .no, .no]) (his i) (fun d => .tuple [.int d.m, .int d.p, .int (d.s + d.b), .int d.c]) (r_seq rfl) (by omega) rfl rfl
    (fun d _ => by
      show cCmp inD _ _ ([.val (dsD ds), .val (.int i), .no, .val d.D] : Rho) = some (.ok _ ([.val (dsD ds), .val (.int i), .no, .val d.D] : Rho))
      exact r_cmp (d := .int i) (e := .tuple [.int d.s, .int d.b]) (r_var rfl) rfl in_pair)
    (fun d _ _ => by
      show cTup _ ([.val (dsD ds), .val (.int i), .no, .val d.D] : Rho) = some (.ok _ ([.val (dsD ds), .val (.int i), .no, .val d.D] : Rho))
      have s4 : subD d.D (.int 4) = some (.int d.m) := rfl
      have s2 : subD d.D (.int 2) = some (.int d.p) := rfl
      have s0 : subD d.D (.int 0) = some (.int d.s) := rfl
      have s1 : subD d.D (.int 1) = some (.int d.b) := rfl
      have s3 : subD d.D (.int 3) = some (.int d.c) := rfl
      have ad : addD (.int d.s) (.int d.b) = some (.int (d.s + d.b)) := rfl
      generalize dsD ds = X
      generalize d.D = Y at s4 s2 s0 s1 s3 ⊢
      simp! only [setSl, List.replicate, pinS, Md.unb, VR.ap_fld1, VR.ap_pFld, VR.ap_pKey, VR.ap_keyT1, s4, s2, s0, s1, s3, ad])
  have lf := List.length_filter_le (his i) ds
  generalize hfl : ds.filter (his i) = fs at c lf ⊢
  have a1 : sSet 2 _ _ = _ := r_set (i := 2) c rfl
  have ls : cLenSetI (cVar 2) [.val (dsD ds), .val (.int i), .val (.list (fs.map fun d => .tuple [.int d.m, .int d.p, .int (d.s + d.b), .int d.c])), .no] = some (.ok (.d (.int ((uniq (fs.map u4)).length : Nat))) [.val (dsD ds), .val (.int i), .val (.list (fs.map fun d => .tuple [.int d.m, .int d.p, .int (d.s + d.b), .int d.c])), .no]) := by
    unfold cLenSetI
    rw [bnd_ok (r_var (d := .list (fs.map fun d => .tuple [.int d.m, .int d.p, .int (d.s + d.b), .int d.c])) rfl)]
    show (match intRows (fs.map fun d => .tuple [.int d.m, .int d.p, .int (d.s + d.b), .int d.c]) with
      | some ks => if ks.length < 64 then some (Er.ok (Rv.d (.int ((uniq ks).length : Nat))) _) else none
      | none => none) = _
    rw [irows]
    show (if (fs.map u4).length < 64 then _ else none) = _
    rw [if_pos (by rw [List.length_map]; omega)]
  have ln : cCall lenD (aCons (cVar 2) aNil) [.val (dsD ds), .val (.int i), .val (.list (fs.map fun d => .tuple [.int d.m, .int d.p, .int (d.s + d.b), .int d.c])), .no] = some (.ok (.d (.int ((fs.map u4).length : Nat))) [.val (dsD ds), .val (.int i), .val (.list (fs.map fun d => .tuple [.int d.m, .int d.p, .int (d.s + d.b), .int d.c])), .no]) := by
    refine r_call1 (r_var rfl) ?_
    show some (PyData.int ((fs.map fun d => PyData.tuple [.int d.m, .int d.p, .int (d.s + d.b), .int d.c]).length : Nat)) = _
    rw [List.length_map, List.length_map]
  refine ⟨[.val (dsD ds), .val (.int i)], ?_⟩
  unfold F__law_unlike
  refine (run_rt (ρ' := [.val (dsD ds), .val (.int i), .val (.list (fs.map fun d => .tuple [.int d.m, .int d.p, .int (d.s + d.b), .int d.c])), .no]) ?_).trans rfl
  unfold g__law_unlike
  show sSeq _ _ [.val (dsD ds), .val (.int i), .no, .no] = _
  rw [seq_nx a1]
  show sRet _ [.val (dsD ds), .val (.int i), .val (.list (fs.map fun d => .tuple [.int d.m, .int d.p, .int (d.s + d.b), .int d.c])), .no] = _
  generalize ([.val (dsD ds), .val (.int i), .val (.list (fs.map fun d => .tuple [.int d.m, .int d.p, .int (d.s + d.b), .int d.c])), .no] : Rho) = ρ at ls ln ⊢
  have q : eqD (.int ((uniq (fs.map u4)).length : Nat)) (.int ((fs.map u4).length : Nat)) = some (decide ((fs.map u4).Nodup)) := by
    show some (decide (((uniq (fs.map u4)).length : Int) = ((fs.map u4).length : Int))) = _
    congr 1
    rw [decide_eq_decide, ← uniq_all]
    omega
  generalize cLenSetI (cVar 2) = f1 at ls ⊢
  generalize cCall lenD (aCons (cVar 2) aNil) = f2 at ln ⊢
  simp! only [setSl, List.replicate, pinS, Md.unb, VR.ap_fld1, VR.ap_pFld, VR.ap_pKey, VR.ap_keyT1, ls, ln, q]
end K37

end

section
set_option Elab.async false
set_option linter.all false
set_option maxRecDepth 100000
set_option maxHeartbeats 2000000
namespace K37
open PySem PySem.Spec PyProof.Rows L2 VL SM SN SP SH DQ
variable {n : Nat}
noncomputable def cnt (d : Dl) (c : Nat) : Dl := { d with c := c }
noncomputable def tn (d : Dl) : Dl := ⟨d.b, d.s, d.p, d.c, d.m⟩
noncomputable def hi9 (d : Dl) : Dl := { d with p := d.p + 9 }
theorem sum_app (xs ys : List Int) : (xs ++ ys).sum = xs.sum + ys.sum := by
  induction xs with
  | nil => simp
  | cons x xs ih => simp [ih]; omega
theorem cL_cnt {i : Int} {d : Dl} : ∀ cs : List Nat, ((cs.map (cnt d)).map (PC.cL i)).sum = PC.cL i (cnt d cs.sum)
  | [] => by
    by_cases h1 : d.b = i <;> by_cases h2 : d.s = i <;> simp [cnt, PC.cL, h1, h2]
  | c :: cs => by
    rw [List.map_cons, List.map_cons, List.sum_cons, cL_cnt cs, List.sum_cons]
    simp only [PC.cL, cnt]
    by_cases h1 : d.b = i <;> by_cases h2 : d.s = i <;> simp [h1, h2] <;> omega
theorem cC_cnt {i : Int} {d : Dl} : ∀ cs : List Nat, ((cs.map (cnt d)).map (PC.cC i)).sum = PC.cC i (cnt d cs.sum)
  | [] => by
    by_cases h1 : d.b = i <;> by_cases h2 : d.s = i <;> simp [cnt, PC.cC, h1, h2]
  | c :: cs => by
    rw [List.map_cons, List.map_cons, List.sum_cons, cC_cnt cs, List.sum_cons]
    simp only [PC.cC, cnt]
    have e : d.p * ((c + cs.sum : Nat) : Int) = d.p * c + d.p * (cs.sum : Nat) := by
      rw [Int.natCast_add, Int.mul_add]
    rw [e]
    by_cases h1 : d.b = i <;> by_cases h2 : d.s = i <;> simp only [h1, h2, if_true, if_false] <;> omega
theorem cnt_self {d : Dl} : cnt d d.c = d := rfl
theorem parted_lots {A B : List Dl} {d : Dl} {cs : List Nat} (h : cs.sum = d.c) (i : Int) : PC.lots (A ++ cs.map (cnt d) ++ B) i = PC.lots (A ++ d :: B) i ∧ PC.coins (A ++ cs.map (cnt d) ++ B) i = PC.coins (A ++ d :: B) i := by
  unfold PC.lots PC.coins
  simp only [List.map_append, List.map_cons, sum_app, List.sum_cons]
  rw [cL_cnt, cC_cnt, h, cnt_self]
  omega
theorem turned_lots {ds : List Dl} (i : Int) : PC.lots (ds.map tn) i = 0 - PC.lots ds i ∧ PC.coins (ds.map tn) i = 0 - PC.coins ds i := by
  unfold PC.lots PC.coins
  induction ds with
  | nil => exact ⟨rfl, rfl⟩
  | cons d ds ih =>
    simp only [List.map_cons, List.sum_cons]
    have h1 : PC.cL i (tn d) = 0 - PC.cL i d := by
      simp only [PC.cL, tn]
      omega
    have h2 : PC.cC i (tn d) = 0 - PC.cC i d := by
      simp only [PC.cC, tn]
      omega
    rw [h1, h2, ih.1, ih.2]
    omega
theorem higher_lots {ds : List Dl} (i : Int) : PC.lots (ds.map hi9) i = PC.lots ds i ∧ PC.coins (ds.map hi9) i = PC.coins ds i - 9 * PC.lots ds i := by
  unfold PC.lots PC.coins
  induction ds with
  | nil => exact ⟨rfl, rfl⟩
  | cons d ds ih =>
    simp only [List.map_cons, List.sum_cons]
    have h1 : PC.cL i (hi9 d) = PC.cL i d := rfl
    have h2 : PC.cC i (hi9 d) = PC.cC i d - 9 * PC.cL i d := by
      simp only [PC.cC, PC.cL, hi9]
      have e : (d.p + 9) * (d.c : Int) = d.p * d.c + 9 * d.c := Int.add_mul ..
      rw [e]
      by_cases h1 : d.b = i <;> by_cases h2 : d.s = i <;> simp only [h1, h2, if_true, if_false] <;> omega
    rw [h1, h2, ih.1, ih.2]
    omega
theorem rowsOf_app {i : Int} : ∀ {A B : List Dl}, PC.rowsOf i (A ++ B) = PC.rowsOf i A ++ PC.rowsOf i B
  | [], B => rfl
  | a :: A, B => by
    rw [List.cons_append, PC.rowsOf, PC.rowsOf, rowsOf_app]
    simp [List.append_assoc]
noncomputable def gR (i : Int) (d : Dl) : PC.Rw := if d.b = i then ⟨d.m, d.p, d.s, d.c, false⟩ else ⟨d.m, d.p, d.b, d.c, true⟩
theorem rows_one {i : Int} {d : Dl} (ne : d.s ≠ d.b) : PC.rowsOf i [d] = if his i d then [gR i d] else [] := by
  unfold PC.rowsOf PC.rowsOf his gR
  by_cases hb : d.b = i
  · have hs : ¬ d.s = i := fun z => ne (by rw [z, hb])
    simp [hb, hs]
  · by_cases hs : d.s = i
    · simp [hb, hs]
    · simp [hb, hs]
theorem rows_all {i : Int} : ∀ {ds : List Dl}, (∀ d ∈ ds, d.s ≠ d.b) → PC.rowsOf i ds = (ds.filter (his i)).map (gR i)
  | [], _ => rfl
  | d :: ds, h => by
    rw [show d :: ds = [d] ++ ds from rfl, rowsOf_app, rows_one (h d List.mem_cons_self), rows_all fun x hx => h x (List.mem_cons_of_mem _ hx), List.filter_append, List.map_append]
    congr 1
    rw [List.filter_cons]
    split <;> rfl
theorem open_parted {i : Int} {A B : List Dl} {d : Dl} {cs : List Nat} (h : cs.sum = d.c) (ne : d.s ≠ d.b) : PC.fU (stt i (A ++ cs.map (cnt d) ++ B)) = PC.fU (stt i (A ++ d :: B)) := by
  unfold stt
  rw [rowsOf_app, rowsOf_app, show A ++ d :: B = A ++ ([d] ++ B) from rfl, rowsOf_app, rowsOf_app, rows_one ne, rows_all (ds := cs.map (cnt d)) fun x hx => by
    obtain ⟨c, _, rfl⟩ := List.mem_map.mp hx
    exact ne]
  cases q : his i d with
  | false =>
    have : (cs.map (cnt d)).filter (his i) = [] := List.filter_eq_nil_iff.mpr fun x hx => by
      obtain ⟨c, _, rfl⟩ := List.mem_map.mp hx
      have : his i (cnt d c) = his i d := rfl
      rw [this, q]
      decide
    rw [this, List.map_nil, List.append_nil]
    rfl
  | true =>
    have : (cs.map (cnt d)).filter (his i) = cs.map (cnt d) := List.filter_eq_self.mpr fun x hx => by
      obtain ⟨c, _, rfl⟩ := List.mem_map.mp hx
      exact q
    rw [this, List.map_map]
    have e : (gR i ∘ cnt d) = fun c => { gR i d with c := c } := by
      funext c
      show gR i (cnt d c) = _
      unfold gR
      show (if d.b = i then _ else _) = _
      split <;> rfl
    rw [e]
    have := PC.part_un (A := PC.rowsOf i A) (B := PC.rowsOf i B) (r := gR i d) (cs := cs) (by rw [h]; unfold gR; split <;> rfl)
    exact this
theorem turned_st {i : Int} {ds : List Dl} (hd : ∀ d ∈ ds, PC.DlOk n d) (nd : ((ds.filter (his i)).map u4).Nodup) : PC.Fl (stt i ds) (stt i (ds.map tn)) := by
  have ne : ∀ d ∈ ds, d.s ≠ d.b := fun d h => (hd d h).ne
  have e : PC.rowsOf i (ds.map tn) = (PC.rowsOf i ds).map PC.Rw.fl := by
    rw [rows_all ne, rows_all (ds := ds.map tn) fun x hx => by
      obtain ⟨d, h, rfl⟩ := List.mem_map.mp hx
      exact Ne.symm (ne d h)]
    have f : (ds.map tn).filter (his i) = (ds.filter (his i)).map tn := by
      rw [List.filter_map]
      congr 1
      refine List.filter_congr fun d _ => ?_
      show (decide (d.b = i) || decide (d.s = i)) = (decide (d.s = i) || decide (d.b = i))
      exact Bool.or_comm ..
    rw [f, List.map_map, List.map_map]
    refine List.map_congr_left fun d hm => ?_
    obtain ⟨h1, h2⟩ := List.mem_filter.mp hm
    have nn := ne d h1
    show gR i (tn d) = (gR i d).fl
    unfold gR
    show (if d.s = i then (⟨d.m, d.p, d.b, d.c, false⟩ : PC.Rw) else ⟨d.m, d.p, d.s, d.c, true⟩) = _
    unfold his at h2
    by_cases hb : d.b = i
    · have hs : ¬ d.s = i := fun z => nn (by rw [z, hb])
      rw [if_pos hb, if_neg hs]
      rfl
    · have hs : d.s = i := by simpa [hb] using h2
      rw [if_neg hb, if_pos hs]
      rfl
  have k : ((PC.rowsOf i ds).map PC.k4).Nodup := by
    rw [rows_all ne, List.map_map]
    unfold List.Nodup at nd ⊢
    rw [List.pairwise_map] at nd ⊢
    refine nd.imp_of_mem fun {a b} ha hb h z => h ?_
    have o : ∀ d ∈ ds.filter (his i), (gR i d).o = d.s + d.b - i := fun d hm => by
      obtain ⟨h1, h2⟩ := List.mem_filter.mp hm
      unfold his at h2
      unfold gR
      by_cases hb : d.b = i
      · rw [if_pos hb]
        show d.s = _
        omega
      · have hs : d.s = i := by simpa [hb] using h2
        rw [if_neg hb]
        show d.b = _
        omega
    have mm : ∀ d : Dl, (gR i d).m = d.m ∧ (gR i d).p = d.p ∧ (gR i d).c = d.c := fun d => by
      unfold gR
      split <;> exact ⟨rfl, rfl, rfl⟩
    have z : PC.k4 (gR i a) = PC.k4 (gR i b) := z
    unfold PC.k4 at z
    rw [o a ha, o b hb, (mm a).1, (mm a).2.1, (mm a).2.2, (mm b).1, (mm b).2.1, (mm b).2.2] at z
    simp only [List.cons.injEq] at z
    unfold u4
    simp only [List.cons.injEq]
    obtain ⟨z1, z2, z3, z4, _⟩ := z
    exact ⟨z1, z2, by omega, z4, trivial⟩
  unfold stt
  rw [e, PC.sortR_fl k]
  exact PC.Fl.all (s := PC.st0) (t := PC.st0) ⟨rfl, rfl, .inl rfl⟩ fun r hr => (PC.rowsOf_ok hd r (PC.sortR_perm.subset hr)).c0
theorem told_fl {s t : PC.St} (f : PC.Fl s t) : PC.told t = .tuple [.list ((s.cl.map PC.Cl.fl).map PC.Cl.D), .tuple [.str (wfl s), .list (s.op.map PC.Op.D)]] := by
  have w : PC.wdS t = wfl s := by
    unfold PC.wdS wfl
    rw [f.op]
    have h := f.h
    cases q : s.op with
    | nil => rfl
    | cons o op =>
      have h := h.resolve_left (by rw [q]; exact fun z => nomatch z)
      simp only
      rw [h]
      cases s.h <;> rfl
  unfold PC.told
  rw [f.cl, f.op, w]
end K37

end

section
set_option Elab.async false
set_option linter.all false
set_option maxRecDepth 100000
namespace SP
open PySem PySem.Spec PyProof.Rows L2 VL SM
inductive JP (es : List Pr) : Rho → Prop where
  | mk {t : Tr} {a b c : Sl} {n mo : Int} (ht : BagT t) (m0 : 0 ≤ mo) (hb : frB (some b) = true) (hc : frB (some c) = true) :
    JP es [.own .pin t, .val (.int n), .own .free (tr (es.map Pr.D)), .val (.int mo), b, c]
theorem cut_hi {α : Type} {xs : List α} {n : Nat} : cutL xs none (some (n : Nat)) = xs.take n := by
  unfold cutL
  rw [HT.sIx_none, HT.sIx_nat, List.drop_zero, Nat.sub_zero]
  by_cases h : n ≤ xs.length
  · rw [Nat.min_eq_left h]
  · rw [Nat.min_eq_right (by omega), List.take_of_length_le (by omega), List.take_of_length_le (by omega)]
theorem cut_lo {α : Type} {xs : List α} {n : Nat} : cutL xs (some (n : Nat)) none = xs.drop n := by
  unfold cutL
  rw [HT.sIx_none, HT.sIx_nat]
  by_cases h : n ≤ xs.length
  · rw [Nat.min_eq_left h, List.take_of_length_le (by rw [List.length_drop]; omega)]
  · rw [Nat.min_eq_right (by omega), Nat.sub_self, List.take_zero, List.drop_of_length_le (by omega)]
end SP

end

section
set_option Elab.async false
set_option linter.all false
set_option maxRecDepth 100000
set_option maxHeartbeats 4000000
namespace K37
open PySem PySem.Spec PyProof.Rows L2 VL SM SN SP SH DQ
theorem takeF {b : Bag} {d : PyData} : fTake [.own .free (bgT b), .val d] = fTake [.own .pin (bgT b), .val d] := rfl
theorem smallF {b : Bag} {d e : PyData} : F__law_small_deals [.own .free (bgT b), .val d, .val e] = F__law_small_deals [.own .pin (bgT b), .val d, .val e] := rfl
theorem ds_map {α : Type} {f : α → Dl} {xs : List α} : dsD (xs.map f) = .list (xs.map fun x => (f x).D) := by
  show PyData.list ((xs.map f).map PC.Dl.D) = _
  rw [List.map_map]
  rfl
theorem cutLo {α : Type} {D : α → PyData} {xs : List α} {n : Nat} : cutD (.list (xs.map D)) (some (n : Nat)) none = some (.list ((xs.drop n).map D)) := by
  show some (PyData.list (cutL (xs.map D) (some (n : Nat)) none)) = _
  rw [cut_lo, ← List.map_drop]
theorem cutHi {α : Type} {D : α → PyData} {xs : List α} {n : Nat} : cutD (.list (xs.map D)) none (some (n : Nat)) = some (.list ((xs.take n).map D)) := by
  show some (PyData.list (cutL (xs.map D) none (some (n : Nat)))) = _
  rw [cut_hi, ← List.map_take]
section
variable {S K D4 D14 D15 D17 R P T1d T2d : PyData} {b b1 : Bag} {v2 v3 v4 v5 v6 v7 v8 v9 v10 v11 v12 v14 v15 v17 v18 v21 v22 v23 : Sl} {T T2 T3 : Tr} {o o2 o3 o0 : List Sl} {n i r l a g : Int}
theorem w1 (h : frB (some v2) = true) (e0 : fBag [.val S, .val K] = some (.ret (bgT b), o0)) : (sSetN 2 (nCall [0, 1] 2 fBag (aCons (cVar 0) (aCons (cVar 1) aNil)))) [.val S, .val K, v2, v3, v4, v5, v6, v7, v8, v9, v10, v11, v12, .no, v14, v15, .no, v17, v18, .no, .no, v21, v22, v23] = some (.nx [.val S, .val K, (.own .free (bgT b)), v3, v4, v5, v6, v7, v8, v9, v10, v11, v12, .no, v14, v15, .no, v17, v18, .no, .no, v21, v22, v23]) := by
  simp! only [List.replicate, pinS, Md.unb, VR.ap_fld1, VR.ap_pFld, VR.ap_pKey, VR.ap_keyT1, e0, setSl_f, h]
theorem w2 (h : frB (some v3) = true) (f : fTake [.own .pin (bgT b), .val (.int 5)] = some (.ret (.dat (.int r)), [.own .pin (bgT b1), .val (.int 5)])) (hn : addD (.int 2) (.int r) = some (.int n)) : (sSet 3 (cBin addD (cD (.int 2)) (cFrz (nCall [2] 2 fTake (aCons (cVar 2) (aCons (cD (.int 5)) aNil)))))) [.val S, .val K, (.own .free (bgT b)), v3, v4, v5, v6, v7, v8, v9, v10, v11, v12, .no, v14, v15, .no, v17, v18, .no, .no, v21, v22, v23] = some (.nx [.val S, .val K, (.own .free (bgT b1)), .val (.int n), v4, v5, v6, v7, v8, v9, v10, v11, v12, .no, v14, v15, .no, v17, v18, .no, .no, v21, v22, v23]) := by
  simp! only [List.replicate, pinS, Md.unb, VR.ap_fld1, VR.ap_pFld, VR.ap_pKey, VR.ap_keyT1, cv_bg, takeF, smallF, f, hn, setSl_f, h]
theorem w3 (h : frB (some v4) = true) (f : F__law_small_deals [.own .pin (bgT b), .val (.int n), .val (.int 23)] = some (.ret T, [.own .pin (bgT b1), .val (.int n), .val (.int 23)])) (td : T.toD = some P) (ad : addD P (.list [.tuple [.int 0, .int 1, .int 101, .int 6, .int 2]]) = some D4) : (sSet 4 (cBin addD (cFrz (nCall [2, 3] 3 SM.F__law_small_deals (aCons (cVar 2) (aCons (cVar 3) (aCons (cD (.int 23)) aNil))))) (cFrz (nLst (aCons (cTup (aCons (cD (.int 0)) (aCons (cD (.int 1)) (aCons (cD (.int 101)) (aCons (cD (.int 6)) (aCons (cD (.int 2)) aNil)))))) aNil))))) [.val S, .val K, (.own .free (bgT b)), .val (.int n), v4, v5, v6, v7, v8, v9, v10, v11, v12, .no, v14, v15, .no, v17, v18, .no, .no, v21, v22, v23] = some (.nx [.val S, .val K, (.own .free (bgT b1)), .val (.int n), .val D4, v5, v6, v7, v8, v9, v10, v11, v12, .no, v14, v15, .no, v17, v18, .no, .no, v21, v22, v23]) := by
  have tl : Tr.toD (.lst [.dat (.tuple [.int 0, .int 1, .int 101, .int 6, .int 2])]) = some (.list [.tuple [.int 0, .int 1, .int 101, .int 6, .int 2]]) := rfl
  simp! only [List.replicate, pinS, Md.unb, VR.ap_fld1, VR.ap_pFld, VR.ap_pKey, VR.ap_keyT1, cv_bg, takeF, smallF, f, td, tl, ad, setSl_f, h]
theorem w4 (h : frB (some v5) = true) (ln : lenD [D4] = some (.int l)) (f : fTake [.own .pin (bgT b), .val (.int l)] = some (.ret (.dat (.int a)), [.own .pin (bgT b1), .val (.int l)])) : (sSet 5 (cFrz (nCall [2] 2 fTake (aCons (cVar 2) (aCons (cCall lenD (aCons (cVar 4) aNil)) aNil))))) [.val S, .val K, (.own .free (bgT b)), v3, .val D4, v5, v6, v7, v8, v9, v10, v11, v12, .no, v14, v15, .no, v17, v18, .no, .no, v21, v22, v23] = some (.nx [.val S, .val K, (.own .free (bgT b1)), v3, .val D4, .val (.int a), v6, v7, v8, v9, v10, v11, v12, .no, v14, v15, .no, v17, v18, .no, .no, v21, v22, v23]) := by
  simp! only [List.replicate, pinS, Md.unb, VR.ap_fld1, VR.ap_pFld, VR.ap_pKey, VR.ap_keyT1, cv_bg, takeF, smallF, ln, f, setSl_f, h]
theorem w5 {x1 x2 x3 x4 x5 : PyData} (h6 : frB (some v6) = true) (h7 : frB (some v7) = true) (h8 : frB (some v8) = true) (h9 : frB (some v9) = true) (h10 : frB (some v10) = true) (s : subD D4 (.int a) = some (.tuple [x1, x2, x3, x4, x5])) : (sAsg (VL.gT 5 (gsC (gN 6) (gsC (gN 7) (gsC (gN 8) (gsC (gN 9) (gsC (gN 10) gsN)))))) (cBin subD (cVar 4) (cVar 5))) [.val S, .val K, (.own .free (bgT b)), v3, .val D4, .val (.int a), v6, v7, v8, v9, v10, v11, v12, .no, v14, v15, .no, v17, v18, .no, .no, v21, v22, v23] = some (.nx [.val S, .val K, (.own .free (bgT b)), v3, .val D4, .val (.int a), .val x1, .val x2, .val x3, .val x4, .val x5, v11, v12, .no, v14, v15, .no, v17, v18, .no, .no, v21, v22, v23]) := by
  refine r_asg (r_bin (r_var rfl) (r_var rfl) s) ?_
  simp! only [List.replicate, pinS, Md.unb, VR.ap_fld1, VR.ap_pFld, VR.ap_pKey, VR.ap_keyT1, setSl_f, h6, h7, h8, h9, h10]
theorem w6 (h : frB (some v11) = true) (f : fTake [.own .pin (bgT b), .val (.int l)] = some (.ret (.dat (.int a)), [.own .pin (bgT b1), .val (.int l)])) : (sSet 11 (cFrz (nCall [2, 9] 2 fTake (aCons (cVar 2) (aCons (cVar 9) aNil))))) [.val S, .val K, (.own .free (bgT b)), v3, v4, v5, v6, v7, v8, .val (.int l), v10, v11, v12, .no, v14, v15, .no, v17, v18, .no, .no, v21, v22, v23] = some (.nx [.val S, .val K, (.own .free (bgT b1)), v3, v4, v5, v6, v7, v8, .val (.int l), v10, .val (.int a), v12, .no, v14, v15, .no, v17, v18, .no, .no, v21, v22, v23]) := by
  simp! only [List.replicate, pinS, Md.unb, VR.ap_fld1, VR.ap_pFld, VR.ap_pKey, VR.ap_keyT1, cv_bg, takeF, smallF, f, setSl_f, h]
theorem w7 (h : frB (some v12) = true) {d : Dl} {v : Nat} (hv : v ≤ d.c) : (sSet 12 (cFrz (nComp (iSeq (cTup (aCons (cVar 11) (aCons (cBin subtD (cVar 9) (cVar 11)) aNil)))) [13] (gN 13) (cCmp gtD (cVar 13) (cD (.int 0))) (cTup (aCons (cVar 6) (aCons (cVar 7) (aCons (cVar 8) (aCons (cVar 13) (aCons (cVar 10) aNil))))))))) [.val S, .val K, (.own .free (bgT b)), v3, v4, v5, .val (.int d.s), .val (.int d.b), .val (.int d.p), .val (.int d.c), .val (.int d.m), .val (.int (v : Nat)), v12, .no, v14, v15, .no, v17, v18, .no, .no, v21, v22, v23] = some (.nx [.val S, .val K, (.own .free (bgT b)), v3, v4, v5, .val (.int d.s), .val (.int d.b), .val (.int d.p), .val (.int d.c), .val (.int d.m), .val (.int (v : Nat)), .val (dsD ((([v, d.c - v] : List Nat).filter fun c => decide (0 < c)).map (cnt d))), .no, v14, v15, .no, v17, v18, .no, .no, v21, v22, v23]) := by
  have it : (iSeq (cTup (aCons (cVar 11) (aCons (cBin subtD (cVar 9) (cVar 11)) aNil)))) [.val S, .val K, (.own .free (bgT b)), v3, v4, v5, .val (.int d.s), .val (.int d.b), .val (.int d.p), .val (.int d.c), .val (.int d.m), .val (.int (v : Nat)), v12, .no, v14, v15, .no, v17, v18, .no, .no, v21, v22, v23] = some (.ok (([v, d.c - v] : List Nat).map fun c => .int (c : Nat)) [.val S, .val K, (.own .free (bgT b)), v3, v4, v5, .val (.int d.s), .val (.int d.b), .val (.int d.p), .val (.int d.c), .val (.int d.m), .val (.int (v : Nat)), v12, .no, v14, v15, .no, v17, v18, .no, .no, v21, v22, v23]) := by
    have sb : subtD (.int d.c) (.int (v : Nat)) = some (.int ((d.c - v : Nat) : Int)) := by
      show some (PyData.int ((d.c : Int) - (v : Nat))) = _
      rw [Int.ofNat_sub hv]
    simp! only [setSl, List.replicate, pinS, Md.unb, VR.ap_fld1, VR.ap_pFld, VR.ap_pKey, VR.ap_keyT1, sb]
    rfl
  have c := r_compT (D := fun c : Nat => .int (c : Nat)) (ds := [v, d.c - v]) (v := 13) (s := .no) (fi := (iSeq (cTup (aCons (cVar 11) (aCons (cBin subtD (cVar 9) (cVar 11)) aNil))))) (tt := (cCmp gtD (cVar 13) (cD (.int 0)))) (te := (cTup (aCons (cVar 6) (aCons (cVar 7) (aCons (cVar 8) (aCons (cVar 13) (aCons (cVar 10) aNil))))))) (ρ := [.val S, .val K, (.own .free (bgT b)), v3, v4, v5, .val (.int d.s), .val (.int d.b), .val (.int d.p), .val (.int d.c), .val (.int d.m), .val (.int (v : Nat)), v12, .no, v14, v15, .no, v17, v18, .no, .no, v21, v22, v23]) (fun c => decide (0 < c)) (fun c => (cnt d c).D) it (by simp) rfl rfl (fun c _ => ?_) (fun c _ _ => ?_)
  · refine r_set (i := 12) (ρ1 := [.val S, .val K, (.own .free (bgT b)), v3, v4, v5, .val (.int d.s), .val (.int d.b), .val (.int d.p), .val (.int d.c), .val (.int d.m), .val (.int (v : Nat)), v12, .no, v14, v15, .no, v17, v18, .no, .no, v21, v22, v23]) (d := dsD ((([v, d.c - v] : List Nat).filter fun c => decide (0 < c)).map (cnt d))) ?_ h
    rw [ds_map]
    exact c
  · refine r_cmp (r_var rfl) rfl ?_
    show some (decide ((0 : Int) < (c : Nat))) = _
    congr 1
    rw [decide_eq_decide]
    omega
  · show (cTup (aCons (cVar 6) (aCons (cVar 7) (aCons (cVar 8) (aCons (cVar 13) (aCons (cVar 10) aNil)))))) [.val S, .val K, (.own .free (bgT b)), v3, v4, v5, .val (.int d.s), .val (.int d.b), .val (.int d.p), .val (.int d.c), .val (.int d.m), .val (.int (v : Nat)), v12, .val (.int (c : Nat)), v14, v15, .no, v17, v18, .no, .no, v21, v22, v23] = some (.ok _ [.val S, .val K, (.own .free (bgT b)), v3, v4, v5, .val (.int d.s), .val (.int d.b), .val (.int d.p), .val (.int d.c), .val (.int d.m), .val (.int (v : Nat)), v12, .val (.int (c : Nat)), v14, v15, .no, v17, v18, .no, .no, v21, v22, v23])
    simp! only [setSl, List.replicate, pinS, Md.unb, VR.ap_fld1, VR.ap_pFld, VR.ap_pKey, VR.ap_keyT1]
    rfl
theorem w8 (h : frB (some v14) = true) {X1 X2 X3 : PyData} (c1 : cutD D4 none (some a) = some X1) (a1 : addD X1 P = some X2) (c2 : cutD D4 (some (a + 1)) none = some X3) (a2 : addD X2 X3 = some D14) : (sSet 14 (cBin addD (cBin addD (cCut (cVar 4) oNone (oSome (cVar 5))) (cVar 12)) (cCut (cVar 4) (oSome (cBin addD (cVar 5) (cD (.int 1)))) oNone))) [.val S, .val K, (.own .free (bgT b)), v3, .val D4, .val (.int a), v6, v7, v8, v9, v10, v11, .val P, .no, v14, v15, .no, v17, v18, .no, .no, v21, v22, v23] = some (.nx [.val S, .val K, (.own .free (bgT b)), v3, .val D4, .val (.int a), v6, v7, v8, v9, v10, v11, .val P, .no, .val D14, v15, .no, v17, v18, .no, .no, v21, v22, v23]) := by
  have ad : addD (.int a) (.int 1) = some (.int (a + 1)) := rfl
  simp! only [List.replicate, pinS, Md.unb, VR.ap_fld1, VR.ap_pFld, VR.ap_pKey, VR.ap_keyT1, c1, a1, ad, c2, a2, setSl_f, h]
theorem w9 (h : frB (some v15) = true) {ds : List Dl} (hl : ds.length ≤ 1000) : (sSet 15 (cFrz (nComp (iSeq (cVar 4)) [16] (gN 16) tYesM (cBin addD (cTup (aCons (cBin subD (cVar 16) (cD (.int 1))) (aCons (cBin subD (cVar 16) (cD (.int 0))) aNil))) (cCut (cVar 16) (oSome (cD (.int 2))) oNone))))) [.val S, .val K, (.own .free (bgT b)), v3, .val (dsD ds), v5, v6, v7, v8, v9, v10, v11, v12, .no, v14, v15, .no, v17, v18, .no, .no, v21, v22, v23] = some (.nx [.val S, .val K, (.own .free (bgT b)), v3, .val (dsD ds), v5, v6, v7, v8, v9, v10, v11, v12, .no, v14, .val (dsD (ds.map tn)), .no, v17, v18, .no, .no, v21, v22, v23]) := by
  have c := r_compD (D := PC.Dl.D) (ds := ds) (v := 16) (s := .no) (fi := iSeq (cVar 4)) (te := (cBin addD (cTup (aCons (cBin subD (cVar 16) (cD (.int 1))) (aCons (cBin subD (cVar 16) (cD (.int 0))) aNil))) (cCut (cVar 16) (oSome (cD (.int 2))) oNone))) (ρ := [.val S, .val K, (.own .free (bgT b)), v3, .val (dsD ds), v5, v6, v7, v8, v9, v10, v11, v12, .no, v14, v15, .no, v17, v18, .no, .no, v21, v22, v23]) (fun d => (tn d).D) (r_seq rfl) (by omega) rfl rfl (fun d _ => ?_)
  · refine r_set (i := 15) (ρ1 := [.val S, .val K, (.own .free (bgT b)), v3, .val (dsD ds), v5, v6, v7, v8, v9, v10, v11, v12, .no, v14, v15, .no, v17, v18, .no, .no, v21, v22, v23]) (d := dsD (ds.map tn)) ?_ h
    rw [ds_map]
    exact c
  · show (cBin addD (cTup (aCons (cBin subD (cVar 16) (cD (.int 1))) (aCons (cBin subD (cVar 16) (cD (.int 0))) aNil))) (cCut (cVar 16) (oSome (cD (.int 2))) oNone)) [.val S, .val K, (.own .free (bgT b)), v3, .val (dsD ds), v5, v6, v7, v8, v9, v10, v11, v12, .no, v14, v15, .val d.D, v17, v18, .no, .no, v21, v22, v23] = some (.ok _ [.val S, .val K, (.own .free (bgT b)), v3, .val (dsD ds), v5, v6, v7, v8, v9, v10, v11, v12, .no, v14, v15, .val d.D, v17, v18, .no, .no, v21, v22, v23])
    have s1 : subD d.D (.int 1) = some (.int d.b) := rfl
    have s0 : subD d.D (.int 0) = some (.int d.s) := rfl
    have cc : cutD d.D (some 2) none = some (.tuple [.int d.p, .int d.c, .int d.m]) := rfl
    have ad : addD (.tuple [.int d.b, .int d.s]) (.tuple [.int d.p, .int d.c, .int d.m]) = some (tn d).D := rfl
    generalize dsD ds = X
    generalize d.D = Y at s1 s0 cc ⊢
    simp! only [setSl, List.replicate, pinS, Md.unb, VR.ap_fld1, VR.ap_pFld, VR.ap_pKey, VR.ap_keyT1, s1, s0, cc, ad]
theorem w10 (h : frB (some v17) = true) {ds : List Dl} (hl : ds.length ≤ 1000) : (sSet 17 (cFrz (nComp (iSeq (cVar 4)) [16] (gN 16) tYesM (cBin addD (cBin addD (cCut (cVar 16) oNone (oSome (cD (.int 2)))) (cTup (aCons (cBin addD (cBin subD (cVar 16) (cD (.int 2))) (cD (.int 9))) aNil))) (cCut (cVar 16) (oSome (cD (.int 3))) oNone))))) [.val S, .val K, (.own .free (bgT b)), v3, .val (dsD ds), v5, v6, v7, v8, v9, v10, v11, v12, .no, v14, v15, .no, v17, v18, .no, .no, v21, v22, v23] = some (.nx [.val S, .val K, (.own .free (bgT b)), v3, .val (dsD ds), v5, v6, v7, v8, v9, v10, v11, v12, .no, v14, v15, .no, .val (dsD (ds.map hi9)), v18, .no, .no, v21, v22, v23]) := by
  have c := r_compD (D := PC.Dl.D) (ds := ds) (v := 16) (s := .no) (fi := iSeq (cVar 4)) (te := (cBin addD (cBin addD (cCut (cVar 16) oNone (oSome (cD (.int 2)))) (cTup (aCons (cBin addD (cBin subD (cVar 16) (cD (.int 2))) (cD (.int 9))) aNil))) (cCut (cVar 16) (oSome (cD (.int 3))) oNone))) (ρ := [.val S, .val K, (.own .free (bgT b)), v3, .val (dsD ds), v5, v6, v7, v8, v9, v10, v11, v12, .no, v14, v15, .no, v17, v18, .no, .no, v21, v22, v23]) (fun d => (hi9 d).D) (r_seq rfl) (by omega) rfl rfl (fun d _ => ?_)
  · refine r_set (i := 17) (ρ1 := [.val S, .val K, (.own .free (bgT b)), v3, .val (dsD ds), v5, v6, v7, v8, v9, v10, v11, v12, .no, v14, v15, .no, v17, v18, .no, .no, v21, v22, v23]) (d := dsD (ds.map hi9)) ?_ h
    rw [ds_map]
    exact c
  · show (cBin addD (cBin addD (cCut (cVar 16) oNone (oSome (cD (.int 2)))) (cTup (aCons (cBin addD (cBin subD (cVar 16) (cD (.int 2))) (cD (.int 9))) aNil))) (cCut (cVar 16) (oSome (cD (.int 3))) oNone)) [.val S, .val K, (.own .free (bgT b)), v3, .val (dsD ds), v5, v6, v7, v8, v9, v10, v11, v12, .no, v14, v15, .val d.D, v17, v18, .no, .no, v21, v22, v23] = some (.ok _ [.val S, .val K, (.own .free (bgT b)), v3, .val (dsD ds), v5, v6, v7, v8, v9, v10, v11, v12, .no, v14, v15, .val d.D, v17, v18, .no, .no, v21, v22, v23])
    have s2 : subD d.D (.int 2) = some (.int d.p) := rfl
    have c1 : cutD d.D none (some 2) = some (.tuple [.int d.s, .int d.b]) := rfl
    have c2 : cutD d.D (some 3) none = some (.tuple [.int d.c, .int d.m]) := rfl
    have a0 : addD (.int d.p) (.int 9) = some (.int (d.p + 9)) := rfl
    have a1 : addD (.tuple [.int d.s, .int d.b]) (.tuple [.int (d.p + 9)]) = some (.tuple [.int d.s, .int d.b, .int (d.p + 9)]) := rfl
    have a2 : addD (.tuple [.int d.s, .int d.b, .int (d.p + 9)]) (.tuple [.int d.c, .int d.m]) = some (hi9 d).D := rfl
    generalize dsD ds = X
    generalize d.D = Y at s2 c1 c2 ⊢
    simp! only [setSl, List.replicate, pinS, Md.unb, VR.ap_fld1, VR.ap_pFld, VR.ap_pKey, VR.ap_keyT1, s2, c1, c2, a0, a1, a2]
theorem w11 (h : frB (some v18) = true) (ld : listD [D4] = some D4) (f : SM.F_stands [.val (.int n), .val D4] = some (.ret T, o)) (td : T.toD = some R) : (sSet 18 (cFrz (nCall [3] 2 SM.F_stands (aCons (cVar 3) (aCons (cCall listD (aCons (cVar 4) aNil)) aNil))))) [.val S, .val K, (.own .free (bgT b)), .val (.int n), .val D4, v5, v6, v7, v8, v9, v10, v11, v12, .no, v14, v15, .no, v17, v18, .no, .no, v21, v22, v23] = some (.nx [.val S, .val K, (.own .free (bgT b)), .val (.int n), .val D4, v5, v6, v7, v8, v9, v10, v11, v12, .no, v14, v15, .no, v17, .val R, .no, .no, v21, v22, v23]) := by
  simp! only [List.replicate, pinS, Md.unb, VR.ap_fld1, VR.ap_pFld, VR.ap_pKey, VR.ap_keyT1, ld, f, td, setSl_f, h]
theorem w12 (f : SM.F_stands [.val (.int n), .val D14] = some (.ret T, o)) (td : T.toD = some R) (q : neD R R = some false) : (sIf (cCmp neD (cFrz (nCall [3, 14] 2 SM.F_stands (aCons (cVar 3) (aCons (cVar 14) aNil)))) (cVar 18)) (sRet (nDat (cD (.bool false)))) sNil) [.val S, .val K, (.own .free (bgT b)), .val (.int n), v4, v5, v6, v7, v8, v9, v10, v11, v12, .no, .val D14, v15, .no, v17, .val R, .no, .no, v21, v22, v23] = some (.nx [.val S, .val K, (.own .free (bgT b)), .val (.int n), v4, v5, v6, v7, v8, v9, v10, v11, v12, .no, .val D14, v15, .no, v17, .val R, .no, .no, v21, v22, v23]) := by
  simp! only [setSl, List.replicate, pinS, Md.unb, VR.ap_fld1, VR.ap_pFld, VR.ap_pKey, VR.ap_keyT1, f, td, q]
theorem w13 {xs : List PyData} (f : SM.F_stands [.val (.int n), .val D15] = some (.ret T, o)) (td : T.toD = some P) (c : (cFrz (nComp (iSeq (cVar 18)) [19, 20] (VL.gT 2 (gsC (gN 19) (gsC (gN 20) gsN))) tYesM (cTup (aCons (cBin subtD (cD (.int 0)) (cVar 19)) (aCons (cBin subtD (cD (.int 0)) (cVar 20)) aNil))))) [.val S, .val K, (.own .free (bgT b)), .val (.int n), v4, v5, v6, v7, v8, v9, v10, v11, v12, .no, v14, .val D15, .no, v17, .val (.list xs), .no, .no, v21, v22, v23] = some (.ok (.d P) [.val S, .val K, (.own .free (bgT b)), .val (.int n), v4, v5, v6, v7, v8, v9, v10, v11, v12, .no, v14, .val D15, .no, v17, .val (.list xs), .no, .no, v21, v22, v23])) (q : neD P P = some false) : (sIf (cCmp neD (cFrz (nCall [3, 15] 2 SM.F_stands (aCons (cVar 3) (aCons (cVar 15) aNil)))) (cFrz (nComp (iSeq (cVar 18)) [19, 20] (VL.gT 2 (gsC (gN 19) (gsC (gN 20) gsN))) tYesM (cTup (aCons (cBin subtD (cD (.int 0)) (cVar 19)) (aCons (cBin subtD (cD (.int 0)) (cVar 20)) aNil)))))) (sRet (nDat (cD (.bool false)))) sNil) [.val S, .val K, (.own .free (bgT b)), .val (.int n), v4, v5, v6, v7, v8, v9, v10, v11, v12, .no, v14, .val D15, .no, v17, .val (.list xs), .no, .no, v21, v22, v23] = some (.nx [.val S, .val K, (.own .free (bgT b)), .val (.int n), v4, v5, v6, v7, v8, v9, v10, v11, v12, .no, v14, .val D15, .no, v17, .val (.list xs), .no, .no, v21, v22, v23]) := by
  generalize (cFrz (nComp (iSeq (cVar 18)) [19, 20] (VL.gT 2 (gsC (gN 19) (gsC (gN 20) gsN))) tYesM (cTup (aCons (cBin subtD (cD (.int 0)) (cVar 19)) (aCons (cBin subtD (cD (.int 0)) (cVar 20)) aNil))))) = fc at c ⊢
  simp! only [setSl, List.replicate, pinS, Md.unb, VR.ap_fld1, VR.ap_pFld, VR.ap_pKey, VR.ap_keyT1, f, td, c, q]
theorem w13c {m : Nat} {f g : Int → Int} (hm : m ≤ 1000) : (cFrz (nComp (iSeq (cVar 18)) [19, 20] (VL.gT 2 (gsC (gN 19) (gsC (gN 20) gsN))) tYesM (cTup (aCons (cBin subtD (cD (.int 0)) (cVar 19)) (aCons (cBin subtD (cD (.int 0)) (cVar 20)) aNil))))) [.val S, .val K, (.own .free (bgT b)), .val (.int n), v4, v5, v6, v7, v8, v9, v10, v11, v12, .no, v14, .val D15, .no, v17, .val (.list (ST.rowsD m f g)), .no, .no, v21, v22, v23] = some (.ok (.d (.list (ST.rowsD m (fun i => 0 - f i) fun i => 0 - g i))) [.val S, .val K, (.own .free (bgT b)), .val (.int n), v4, v5, v6, v7, v8, v9, v10, v11, v12, .no, v14, .val D15, .no, v17, .val (.list (ST.rowsD m f g)), .no, .no, v21, v22, v23]) := by
  have cg := compGo_map (v := 0) (ρ := [.val S, .val K, (.own .free (bgT b)), .val (.int n), v4, v5, v6, v7, v8, v9, v10, v11, v12, .no, v14, .val D15, .no, v17, .val (.list (ST.rowsD m f g)), .no, .no, v21, v22, v23]) (D := fun i : Nat => .tuple [.int (f (i : Nat)), .int (g (i : Nat))]) (G := VL.gT 2 (gsC (gN 19) (gsC (gN 20) gsN))) (tt := tYesM) (te := (cTup (aCons (cBin subtD (cD (.int 0)) (cVar 19)) (aCons (cBin subtD (cD (.int 0)) (cVar 20)) aNil)))) (fun _ => true) (fun i : Nat => .tuple [.int (0 - f (i : Nat)), .int (0 - g (i : Nat))]) [19, 20] (fun i : Nat => [.val S, .val K, (.own .free (bgT b)), .val (.int n), v4, v5, v6, v7, v8, v9, v10, v11, v12, .no, v14, .val D15, .no, v17, .val (.list (ST.rowsD m f g)), .val (.int (f (i : Nat))), .val (.int (g (i : Nat))), v21, v22, v23]) [.val S, .val K, (.own .free (bgT b)), .val (.int n), v4, v5, v6, v7, v8, v9, v10, v11, v12, .no, v14, .val D15, .no, v17, .val (.list (ST.rowsD m f g)), .no, .no, v21, v22, v23] (List.range m) [] (by simp; omega) (fun i _ => ⟨r_gT2 rfl rfl, rfl, fun _ => ?_, rfl, rfl⟩)
  · rw [List.nil_append, List.filter_eq_self.mpr fun _ _ => rfl] at cg
    exact r_frz (r_compG (r_seq rfl) rfl cg rfl rfl) toD_ds
  · have s1 : subtD (.int 0) (.int (f (i : Nat))) = some (.int (0 - f (i : Nat))) := rfl
    have s2 : subtD (.int 0) (.int (g (i : Nat))) = some (.int (0 - g (i : Nat))) := rfl
    generalize PyData.list (ST.rowsD m f g) = X
    generalize f (i : Nat) = F at s1 ⊢
    generalize g (i : Nat) = G at s2 ⊢
    simp! only [setSl, List.replicate, pinS, Md.unb, VR.ap_fld1, VR.ap_pFld, VR.ap_pKey, VR.ap_keyT1, s1, s2]
theorem t1 (h : frB (some v22) = true) (ld : listD [D4] = some D4) (f : SM.F_pieces [.val D4, .val (.int i)] = some (.ret T, o)) (td : T.toD = some P) : (sSet 22 (cFrz (nCall [21] 2 SM.F_pieces (aCons (cCall listD (aCons (cVar 4) aNil)) (aCons (cVar 21) aNil))))) [.val S, .val K, (.own .free (bgT b)), v3, .val D4, v5, v6, v7, v8, v9, v10, v11, v12, .no, .val D14, .val D15, .no, .val D17, v18, .no, .no, .val (.int i), v22, v23] = some (.nx [.val S, .val K, (.own .free (bgT b)), v3, .val D4, v5, v6, v7, v8, v9, v10, v11, v12, .no, .val D14, .val D15, .no, .val D17, v18, .no, .no, .val (.int i), .val P, v23]) := by
  simp! only [List.replicate, pinS, Md.unb, VR.ap_fld1, VR.ap_pFld, VR.ap_pKey, VR.ap_keyT1, ld, f, td, setSl_f, h]
theorem t2 (h : frB (some v23) = true) (ld : listD [D4] = some D4) (f : SM.F_gain [.val D4, .val (.int i), .val (.int 100)] = some (.ret (.dat (.int g)), o)) : (sSet 23 (cFrz (nCall [21] 3 SM.F_gain (aCons (cCall listD (aCons (cVar 4) aNil)) (aCons (cVar 21) (aCons (cD (.int 100)) aNil)))))) [.val S, .val K, (.own .free (bgT b)), v3, .val D4, v5, v6, v7, v8, v9, v10, v11, v12, .no, .val D14, .val D15, .no, .val D17, v18, .no, .no, .val (.int i), .val P, v23] = some (.nx [.val S, .val K, (.own .free (bgT b)), v3, .val D4, v5, v6, v7, v8, v9, v10, v11, v12, .no, .val D14, .val D15, .no, .val D17, v18, .no, .no, .val (.int i), .val P, .val (.int g)]) := by
  simp! only [List.replicate, pinS, Md.unb, VR.ap_fld1, VR.ap_pFld, VR.ap_pKey, VR.ap_keyT1, ld, f, setSl_f, h]
theorem t3 (f : SM.F_gain [.val D14, .val (.int i), .val (.int 100)] = some (.ret (.dat (.int g)), o)) (f2 : SM.F_gain [.val D15, .val (.int i), .val (.int 100)] = some (.ret (.dat (.int r)), o2)) (z : r + g = 0) : (sIf (cOr (cCmp neD (cFrz (nCall [14, 21] 3 SM.F_gain (aCons (cVar 14) (aCons (cVar 21) (aCons (cD (.int 100)) aNil))))) (cVar 23)) (cCmp neD (cBin addD (cFrz (nCall [15, 21] 3 SM.F_gain (aCons (cVar 15) (aCons (cVar 21) (aCons (cD (.int 100)) aNil))))) (cVar 23)) (cD (.int 0)))) (sRet (nDat (cD (.bool false)))) sNil) [.val S, .val K, (.own .free (bgT b)), v3, .val D4, v5, v6, v7, v8, v9, v10, v11, v12, .no, .val D14, .val D15, .no, .val D17, v18, .no, .no, .val (.int i), .val P, .val (.int g)] = some (.nx [.val S, .val K, (.own .free (bgT b)), v3, .val D4, v5, v6, v7, v8, v9, v10, v11, v12, .no, .val D14, .val D15, .no, .val D17, v18, .no, .no, .val (.int i), .val P, .val (.int g)]) := by
  have q1 : neD (.int g) (.int g) = some false := ne_self (Sh.int (n := 1)) (by decide)
  have ad : addD (.int r) (.int g) = some (.int 0) := by
    show some (PyData.int (r + g)) = _
    rw [z]
  have q2 : neD (.int 0) (.int 0) = some false := ne_self (Sh.int (n := 1)) (by decide)
  simp! only [setSl, List.replicate, pinS, Md.unb, VR.ap_fld1, VR.ap_pFld, VR.ap_pKey, VR.ap_keyT1, f, f2, q1, ad, q2]
theorem t4 (f : SM.F_gain [.val D17, .val (.int i), .val (.int 109)] = some (.ret (.dat (.int g)), o)) : (sIf (cCmp neD (cFrz (nCall [17, 21] 3 SM.F_gain (aCons (cVar 17) (aCons (cVar 21) (aCons (cD (.int 109)) aNil))))) (cVar 23)) (sRet (nDat (cD (.bool false)))) sNil) [.val S, .val K, (.own .free (bgT b)), v3, .val D4, v5, v6, v7, v8, v9, v10, v11, v12, .no, .val D14, .val D15, .no, .val D17, v18, .no, .no, .val (.int i), .val P, .val (.int g)] = some (.nx [.val S, .val K, (.own .free (bgT b)), v3, .val D4, v5, v6, v7, v8, v9, v10, v11, v12, .no, .val D14, .val D15, .no, .val D17, v18, .no, .no, .val (.int i), .val P, .val (.int g)]) := by
  have q1 : neD (.int g) (.int g) = some false := ne_self (Sh.int (n := 1)) (by decide)
  simp! only [setSl, List.replicate, pinS, Md.unb, VR.ap_fld1, VR.ap_pFld, VR.ap_pKey, VR.ap_keyT1, f, q1]
theorem t5 {A1 A2 W Z : PyData} (f : SM.F_pieces [.val D14, .val (.int i)] = some (.ret T, o)) (td : T.toD = some D4) (f2 : F__law_sums [.val D4] = some (.ret (.lst [.dat A1, .dat W, .dat Z]), o2)) (f3 : F__law_sums [.val P] = some (.ret (.lst [.dat A2, .dat W, .dat Z]), o3)) (q : neD (.list [W, Z]) (.list [W, Z]) = some false) : (sIf (cCmp neD (cCut (cFrz (nCall [] 1 F__law_sums (aCons (cFrz (nCall [14, 21] 2 SM.F_pieces (aCons (cVar 14) (aCons (cVar 21) aNil)))) aNil))) (oSome (cD (.int 1))) oNone) (cCut (cFrz (nCall [22] 1 F__law_sums (aCons (cVar 22) aNil))) (oSome (cD (.int 1))) oNone)) (sRet (nDat (cD (.bool false)))) sNil) [.val S, .val K, (.own .free (bgT b)), v3, v4, v5, v6, v7, v8, v9, v10, v11, v12, .no, .val D14, .val D15, .no, .val D17, v18, .no, .no, .val (.int i), .val P, .val (.int g)] = some (.nx [.val S, .val K, (.own .free (bgT b)), v3, v4, v5, v6, v7, v8, v9, v10, v11, v12, .no, .val D14, .val D15, .no, .val D17, v18, .no, .no, .val (.int i), .val P, .val (.int g)]) := by
  have t1 : Tr.toD (.lst [.dat A1, .dat W, .dat Z]) = some (.list [A1, W, Z]) := rfl
  have t2 : Tr.toD (.lst [.dat A2, .dat W, .dat Z]) = some (.list [A2, W, Z]) := rfl
  have c1 : cutD (.list [A1, W, Z]) (some 1) none = some (.list [W, Z]) := rfl
  have c2 : cutD (.list [A2, W, Z]) (some 1) none = some (.list [W, Z]) := rfl
  simp! only [setSl, List.replicate, pinS, Md.unb, VR.ap_fld1, VR.ap_pFld, VR.ap_pKey, VR.ap_keyT1, f, td, f2, f3, t1, t2, c1, c2, q]
theorem t6 {u : Bool} (f : F__law_unlike [.val D4, .val (.int i)] = some (.ret (.dat (.bool u)), o)) (g1 : SM.F_pieces [.val D15, .val (.int i)] = some (.ret T, o2)) (td : T.toD = some T1d) (g2 : F__law_turned [.val P] = some (.ret T2, o3)) (te : T2.toD = some T2d) (q : u = true → neD T1d T2d = some false) : (sIf (cAnd (cTest (cFrz (nCall [4, 21] 2 F__law_unlike (aCons (cVar 4) (aCons (cVar 21) aNil))))) (cCmp neD (cFrz (nCall [15, 21] 2 SM.F_pieces (aCons (cVar 15) (aCons (cVar 21) aNil)))) (cFrz (nCall [22] 1 F__law_turned (aCons (cVar 22) aNil))))) (sRet (nDat (cD (.bool false)))) sNil) [.val S, .val K, (.own .free (bgT b)), v3, .val D4, v5, v6, v7, v8, v9, v10, v11, v12, .no, .val D14, .val D15, .no, .val D17, v18, .no, .no, .val (.int i), .val P, .val (.int g)] = some (.nx [.val S, .val K, (.own .free (bgT b)), v3, .val D4, v5, v6, v7, v8, v9, v10, v11, v12, .no, .val D14, .val D15, .no, .val D17, v18, .no, .no, .val (.int i), .val P, .val (.int g)]) := by
  cases u with
  | false => simp! only [setSl, List.replicate, pinS, Md.unb, VR.ap_fld1, VR.ap_pFld, VR.ap_pKey, VR.ap_keyT1, f]
  | true =>
    have q := q rfl
    simp! only [setSl, List.replicate, pinS, Md.unb, VR.ap_fld1, VR.ap_pFld, VR.ap_pKey, VR.ap_keyT1, f, g1, td, g2, te, q]
end
end K37

end

section
set_option Elab.async false
set_option linter.all false
set_option maxRecDepth 100000
set_option maxHeartbeats 4000000
namespace K37
open PySem PySem.Spec PyProof.Rows L2 VL SM SN SP SH DQ
theorem eqv_self {d : PyData} {n : Nat} (h : Sh n d) (hn : n ≤ 60) : neD d d = some false := ne_self h (by omega)
theorem VL_addL {xs ys : List PyData} (h : xs.length + ys.length ≤ 1000) : addD (.list xs) (.list ys) = some (.list (xs ++ ys)) := by
  show (if small (xs.length + ys.length) then some (PyData.list (xs ++ ys)) else none) = _
  rw [if_pos (small_of (by omega))]
theorem rows_sh {n : Nat} {f g : Int → Int} : Sh 2 (.list (ST.rowsD n f g)) := ST.rowsSh
theorem told_sh {s : PC.St} : Sh 4 (PC.told s) := .tuple fun x hx => by
  simp only [List.mem_cons, List.not_mem_nil, or_false] at hx
  rcases hx with rfl | rfl
  · exact PC.clSh.mono (by omega)
  · refine .tuple (n := 2) fun x hx => ?_
    simp only [List.mem_cons, List.not_mem_nil, or_false] at hx
    rcases hx with rfl | rfl
    · exact .str (by unfold PC.wdS; split <;> (try split) <;> decide +kernel)
    · exact PC.opSh
theorem wz_sh {s : PC.St} {F : List (Key × PyData)} {op : List PC.Op} (h : OpE op F) : Sh 3 (.list [.str (PC.wdS s), opn F]) := .list fun x hx => by
  simp only [List.mem_cons, List.not_mem_nil, or_false] at hx
  rcases hx with rfl | rfl
  · exact .str (by unfold PC.wdS; split <;> (try split) <;> decide +kernel)
  · exact sh_opn h
structure Cl4 (n : Nat) (ds A B : List Dl) (d : Dl) (cs : List Nat) : Prop where
  n2 : 2 ≤ n
  n1 : n ≤ 6
  ok : ∀ x ∈ ds, PC.DlOk n x
  pr : ∀ x ∈ ds, x.p ≤ 1000
  len : ds.length ≤ 30
  eq : ds = A ++ d :: B
  sum : cs.sum = d.c
  pos : ∀ c ∈ cs, 1 ≤ c ∧ c ≤ d.c
  two : cs.length ≤ 2
noncomputable abbrev prt (A B : List Dl) (d : Dl) (cs : List Nat) : List Dl := A ++ cs.map (cnt d) ++ B
section
variable {n : Nat} {ds A B : List Dl} {d : Dl} {cs : List Nat} (G : Cl4 n ds A B d cs)
include G
theorem ok_prt : ∀ x ∈ prt A B d cs, PC.DlOk n x := fun x hx => by
  have ok := G.ok
  rw [G.eq] at ok
  rcases List.mem_append.mp hx with hx | hx
  · rcases List.mem_append.mp hx with hx | hx
    · exact ok x (List.mem_append_left _ hx)
    · obtain ⟨c, hc, rfl⟩ := List.mem_map.mp hx
      have o := ok d (List.mem_append_right _ List.mem_cons_self)
      obtain ⟨c1, c2⟩ := G.pos c hc
      have := o.c1
      exact ⟨o.s0, o.s1, o.b0, o.b1, o.ne, o.p0, o.p1, c1, by show c ≤ _; omega⟩
  · exact ok x (List.mem_append_right _ (List.mem_cons_of_mem _ hx))
theorem len_prt : (prt A B d cs).length ≤ 31 := by
  have l := G.len
  have e := G.two
  rw [G.eq, List.length_append, List.length_cons] at l
  rw [List.length_append, List.length_append, List.length_map]
  omega
theorem ok_tn : ∀ x ∈ ds.map tn, PC.DlOk n x := fun x hx => by
  obtain ⟨y, hy, rfl⟩ := List.mem_map.mp hx
  have o := G.ok y hy
  exact ⟨o.b0, o.b1, o.s0, o.s1, Ne.symm o.ne, o.p0, o.p1, o.c0, o.c1⟩
theorem ok_hi : ∀ x ∈ ds.map hi9, PC.DlOk n x := fun x hx => by
  obtain ⟨y, hy, rfl⟩ := List.mem_map.mp hx
  have o := G.ok y hy
  have p := G.pr y hy
  have p0 := o.p0
  exact ⟨o.s0, o.s1, o.b0, o.b1, o.ne, by show 0 ≤ y.p + 9; omega, by show y.p + 9 ≤ _; omega, o.c0, o.c1⟩
theorem lots_prt (i : Int) : PC.lots (prt A B d cs) i = PC.lots ds i ∧ PC.coins (prt A B d cs) i = PC.coins ds i := by
  rw [G.eq]
  exact parted_lots G.sum i
theorem rws_prt : rws n (prt A B d cs) = rws n ds := by
  have e1 : PC.lots (prt A B d cs) = PC.lots ds := funext fun i => (lots_prt G i).1
  have e2 : PC.coins (prt A B d cs) = PC.coins ds := funext fun i => (lots_prt G i).2
  unfold rws
  rw [e1, e2]

theorem member {S K : PyData} {b : Bag} {v5 v6 v7 v8 v9 v10 v11 v12 v22 v23 : Sl} {i : Nat} (h22 : frB (some v22) = true) (h23 : frB (some v23) = true) : ∃ w22 w23, frB (some w22) = true ∧ frB (some w23) = true ∧ b_law_0 [.val S, .val K, (.own .free (bgT b)), .val (.int (n : Nat)), .val (dsD ds), v5, v6, v7, v8, v9, v10, v11, v12, .no, .val (dsD (prt A B d cs)), .val (dsD (ds.map tn)), .no, .val (dsD (ds.map hi9)), .val (.list (rws n ds)), .no, .no, .val (.int (i : Nat)), v22, v23] = some (.nx [.val S, .val K, (.own .free (bgT b)), .val (.int (n : Nat)), .val (dsD ds), v5, v6, v7, v8, v9, v10, v11, v12, .no, .val (dsD (prt A B d cs)), .val (dsD (ds.map tn)), .no, .val (dsD (ds.map hi9)), .val (.list (rws n ds)), .no, .no, .val (.int (i : Nat)), w22, w23]) := by
  have l := G.len
  have lp := len_prt G
  have n1 := G.n1
  have ltn : (ds.map tn).length ≤ 30 := by rw [List.length_map]; exact l
  have lhi : (ds.map hi9).length ≤ 30 := by rw [List.length_map]; exact l
  obtain ⟨o1, f1, z1⟩ := f_pieces (i := (i : Nat)) (by omega) G.ok
  obtain ⟨o2, f2⟩ := f_gain (i := (i : Nat)) (x := 100) (by omega) G.ok (by decide) (by decide)
  obtain ⟨o3, f3⟩ := f_gain (i := (i : Nat)) (x := 100) (by omega) (ok_prt G) (by decide) (by decide)
  obtain ⟨o4, f4⟩ := f_gain (i := (i : Nat)) (x := 100) (by omega) (ok_tn G) (by decide) (by decide)
  obtain ⟨o5, f5⟩ := f_gain (i := (i : Nat)) (x := 109) (by omega) (ok_hi G) (by decide) (by decide)
  obtain ⟨o6, f6, z6⟩ := f_pieces (i := (i : Nat)) (by omega) (ok_prt G)
  obtain ⟨o7, f7, z7⟩ := f_pieces (i := (i : Nat)) (by omega) (ok_tn G)
  rw [(lots_prt G (i : Nat)).1, (lots_prt G (i : Nat)).2] at f3
  rw [(turned_lots (i : Nat)).1, (turned_lots (i : Nat)).2] at f4
  have e5 : PC.coins (ds.map hi9) (i : Nat) + 109 * PC.lots (ds.map hi9) (i : Nat) = PC.coins ds (i : Nat) + 100 * PC.lots ds (i : Nat) := by
    rw [(higher_lots (i : Nat)).1, (higher_lots (i : Nat)).2]
    omega
  rw [e5] at f5
  obtain ⟨A1, F1, o8, k8, f8⟩ := e_sums (s := stt (i : Nat) (prt A B d cs)) (by omega)
  obtain ⟨A2, F2, o9, k9, f9⟩ := e_sums (s := stt (i : Nat) ds) (by omega)
  have fu : PC.fU (stt (i : Nat) (prt A B d cs)) = PC.fU (stt (i : Nat) ds) := by
    have := G.ok d (by rw [G.eq]; exact List.mem_append_right _ List.mem_cons_self)
    rw [G.eq]
    exact open_parted G.sum this.ne
  obtain ⟨q1, q2, q3⟩ := PC.open_same fu (PC.final_pos _) (PC.final_pos _)
  have q4 : opn F1 = opn F2 := opn_same k8 k9 q2 q3
  rw [q1, q4] at f8
  obtain ⟨o10, f10⟩ := e_unlike (ds := ds) (i := (i : Nat)) (by omega)
  obtain ⟨o11, f11⟩ := e_turned (s := stt (i : Nat) ds) (by omega)
  refine ⟨.val (PC.told (stt (i : Nat) ds)), .val (.int (PC.coins ds (i : Nat) + 100 * PC.lots ds (i : Nat))), rfl, rfl, ?_⟩
  have a1 := t1 (S := S) (K := K) (b := b) (D14 := dsD (prt A B d cs)) (D15 := dsD (ds.map tn)) (D17 := dsD (ds.map hi9)) (v3 := .val (.int (n : Nat))) (v5 := v5) (v6 := v6) (v7 := v7) (v8 := v8) (v9 := v9) (v10 := v10) (v11 := v11) (v12 := v12) (v18 := .val (.list (rws n ds))) (i := (i : Nat)) (v23 := v23) h22 rfl f1 PC.toldT_D
  have a2 := t2 (S := S) (K := K) (b := b) (D14 := dsD (prt A B d cs)) (D15 := dsD (ds.map tn)) (D17 := dsD (ds.map hi9)) (v3 := .val (.int (n : Nat))) (v5 := v5) (v6 := v6) (v7 := v7) (v8 := v8) (v9 := v9) (v10 := v10) (v11 := v11) (v12 := v12) (v18 := .val (.list (rws n ds))) (i := (i : Nat)) (P := PC.told (stt (i : Nat) ds)) h23 rfl f2
  have a3 := t3 (S := S) (K := K) (b := b) (D14 := dsD (prt A B d cs)) (D15 := dsD (ds.map tn)) (D17 := dsD (ds.map hi9)) (v3 := .val (.int (n : Nat))) (v5 := v5) (v6 := v6) (v7 := v7) (v8 := v8) (v9 := v9) (v10 := v10) (v11 := v11) (v12 := v12) (v18 := .val (.list (rws n ds))) (i := (i : Nat)) (D4 := dsD ds) (P := PC.told (stt (i : Nat) ds)) f3 f4 (by omega)
  have a4 := t4 (S := S) (K := K) (b := b) (D14 := dsD (prt A B d cs)) (D15 := dsD (ds.map tn)) (D17 := dsD (ds.map hi9)) (v3 := .val (.int (n : Nat))) (v5 := v5) (v6 := v6) (v7 := v7) (v8 := v8) (v9 := v9) (v10 := v10) (v11 := v11) (v12 := v12) (v18 := .val (.list (rws n ds))) (i := (i : Nat)) (D4 := dsD ds) (P := PC.told (stt (i : Nat) ds)) f5
  have a5 := t5 (S := S) (K := K) (b := b) (D14 := dsD (prt A B d cs)) (D15 := dsD (ds.map tn)) (D17 := dsD (ds.map hi9)) (v3 := .val (.int (n : Nat))) (v5 := v5) (v6 := v6) (v7 := v7) (v8 := v8) (v9 := v9) (v10 := v10) (v11 := v11) (v12 := v12) (v18 := .val (.list (rws n ds))) (i := (i : Nat)) (v4 := .val (dsD ds)) (P := PC.told (stt (i : Nat) ds)) (g := PC.coins ds (i : Nat) + 100 * PC.lots ds (i : Nat)) f6 PC.toldT_D f8 f9 (eqv_self (wz_sh k9) (by decide))
  have td2 : Tr.toD (.tup [.lst ((((stt (i : Nat) ds).cl.map PC.Cl.fl).map PC.Cl.D).map .dat), .dat (.tuple [.str (wfl (stt (i : Nat) ds)), .list ((stt (i : Nat) ds).op.map PC.Op.D)])]) = some (.tuple [.list (((stt (i : Nat) ds).cl.map PC.Cl.fl).map PC.Cl.D), .tuple [.str (wfl (stt (i : Nat) ds)), .list ((stt (i : Nat) ds).op.map PC.Op.D)]]) := by
    have := toD_ds (ds := ((stt (i : Nat) ds).cl.map PC.Cl.fl).map PC.Cl.D)
    generalize ((stt (i : Nat) ds).cl.map PC.Cl.fl).map PC.Cl.D = X at this ⊢
    simp only [Tr.toD, Tr.toDs] at this ⊢
    cases q : Tr.toDs (X.map .dat) with
    | none => rw [q] at this; cases this
    | some y =>
      rw [q] at this
      cases this
      rfl
  have a6 := t6 (S := S) (K := K) (b := b) (D14 := dsD (prt A B d cs)) (D15 := dsD (ds.map tn)) (D17 := dsD (ds.map hi9)) (v3 := .val (.int (n : Nat))) (v5 := v5) (v6 := v6) (v7 := v7) (v8 := v8) (v9 := v9) (v10 := v10) (v11 := v11) (v12 := v12) (v18 := .val (.list (rws n ds))) (i := (i : Nat)) (D4 := dsD ds) (P := PC.told (stt (i : Nat) ds)) (g := PC.coins ds (i : Nat) + 100 * PC.lots ds (i : Nat)) f10 f7 PC.toldT_D f11 td2 (fun hu => by
    have nd := of_decide_eq_true hu
    have f := turned_st (i := (i : Nat)) G.ok nd
    rw [← told_fl f]
    exact eqv_self told_sh (by decide))
  unfold b_law_0
  rw [seq_nx a1, seq_nx a2, seq_nx a3, seq_nx a4, seq_nx a5]
  exact a6
end
inductive JC (S K : PyData) : Rho → Prop where
  | mk {v2 v3 v4 v5 v6 v7 v8 v9 v10 v11 v12 v14 v15 v17 v18 v21 v22 v23 : Sl} (h2 : frB (some v2) = true) (h3 : frB (some v3) = true) (h4 : frB (some v4) = true) (h5 : frB (some v5) = true) (h6 : frB (some v6) = true) (h7 : frB (some v7) = true) (h8 : frB (some v8) = true) (h9 : frB (some v9) = true) (h10 : frB (some v10) = true) (h11 : frB (some v11) = true) (h12 : frB (some v12) = true) (h14 : frB (some v14) = true) (h15 : frB (some v15) = true) (h17 : frB (some v17) = true) (h18 : frB (some v18) = true) (h21 : frB (some v21) = true) (h22 : frB (some v22) = true) (h23 : frB (some v23) = true) : JC S K [.val S, .val K, v2, v3, v4, v5, v6, v7, v8, v9, v10, v11, v12, .no, v14, v15, .no, v17, v18, .no, .no, v21, v22, v23]
theorem cell {ns : List Int} {k : Nat} {ρ : Rho} (hk : k ≤ 40) (h : JC (scrD ns) (.int (k : Nat)) ρ) : ∃ ρ', b_law_1 ρ = some (.nx ρ') ∧ JC (scrD ns) (.int (k : Nat)) ρ' := by
  obtain ⟨b, o0, hb, e0⟩ := e_bag (ns := ns) hk
  generalize scrD ns = S at h e0 ⊢
  generalize PyData.int (k : Nat) = K at h e0 ⊢
  cases h with
  | @mk v2 v3 v4 v5 v6 v7 v8 v9 v10 v11 v12 v14 v15 v17 v18 v21 v22 v23 h2 h3 h4 h5 h6 h7 h8 h9 h10 h11 h12 h14 h15 h17 h18 h21 h22 h23 =>
    have a1 := w1 (S := S) (v3 := v3) (v4 := v4) (v5 := v5) (v6 := v6) (v7 := v7) (v8 := v8) (v9 := v9) (v10 := v10) (v11 := v11) (v12 := v12) (v14 := v14) (v15 := v15) (v17 := v17) (v18 := v18) (v21 := v21) (v22 := v22) (v23 := v23) (v2 := v2) h2 e0
    obtain ⟨r, b1, hb1, r0, r1, f2⟩ := e_tk hb (n := 5) (by decide) (by decide)
    obtain ⟨n, hn⟩ : ∃ n : Nat, (n : Int) = 2 + r := ⟨(2 + r).toNat, by omega⟩
    have ad2 : addD (.int 2) (.int r) = some (.int (n : Nat)) := by
      rw [hn]
      rfl
    have a2 := w2 (S := S) (K := K) (v3 := v3) (v4 := v4) (v5 := v5) (v6 := v6) (v7 := v7) (v8 := v8) (v9 := v9) (v10 := v10) (v11 := v11) (v12 := v12) (v14 := v14) (v15 := v15) (v17 := v17) (v18 := v18) (v21 := v21) (v22 := v22) (v23 := v23) h3 f2 ad2
    obtain ⟨T, o3, e3, es, b2, g1, g2, g3, hb2, rfl, rfl⟩ := PC.small_deals_ok (m := .pin) (n := n) (most := 23) rfl hb1 (by omega) (by omega) (by decide) (by decide) (Q := fun t outs => ∃ (es : List Dl) (b' : Bag), (∀ d ∈ es, PC.DlOk n d) ∧ (∀ d ∈ es, PC.Sm d) ∧ es.length ≤ 23 ∧ BgOk b' ∧ t = tr (es.map PC.Dl.D) ∧ outs = [.own .pin (bgT b'), .val (.int (n : Nat)), .val (.int 23)]) fun es t' h1 h2 h3 ht => by
      obtain ⟨b', rfl, h⟩ := bg_of ht
      exact ⟨es, b', h1, h2, by omega, h, rfl, rfl⟩
    obtain ⟨ds, eds⟩ : ∃ ds : List Dl, ds = es ++ [⟨0, 1, 101, 6, 2⟩] := ⟨_, rfl⟩
    have ad3 : addD (.list (es.map PC.Dl.D)) (.list [.tuple [.int 0, .int 1, .int 101, .int 6, .int 2]]) = some (dsD ds) := by
      refine (VL_addL (by rw [List.length_map, List.length_singleton]; omega)).trans ?_
      rw [eds]
      unfold dsD
      rw [List.map_append]
      rfl
    have dok : ∀ d ∈ ds, PC.DlOk n d := fun d hd => by
      rw [eds] at hd
      rcases List.mem_append.mp hd with hd | hd
      · exact g1 d hd
      · rw [List.mem_singleton.mp hd]
        exact ⟨by decide, by show (0 : Int) < n; omega, by decide, by show (1 : Int) < n; omega, by decide, by decide, by decide, by decide, by decide⟩
    have dp : ∀ d ∈ ds, d.p ≤ 1000 := fun d hd => by
      rw [eds] at hd
      rcases List.mem_append.mp hd with hd | hd
      · have := (g2 d hd).p1
        omega
      · rw [List.mem_singleton.mp hd]
        decide
    have dl : ds.length ≤ 30 ∧ 1 ≤ ds.length := by
      rw [eds, List.length_append, List.length_singleton]
      omega
    have a3 := w3 (S := S) (K := K) (v4 := v4) (v5 := v5) (v6 := v6) (v7 := v7) (v8 := v8) (v9 := v9) (v10 := v10) (v11 := v11) (v12 := v12) (v14 := v14) (v15 := v15) (v17 := v17) (v18 := v18) (v21 := v21) (v22 := v22) (v23 := v23) h4 e3 td_tr ad3
    obtain ⟨a', b3, hb3, a0, a1', f4⟩ := e_tk hb2 (n := ((ds.length : Nat) : Int)) (by omega) (by omega)
    obtain ⟨a, rfl⟩ : ∃ a : Nat, a' = a := ⟨a'.toNat, by omega⟩
    have ha : a < ds.length := by omega
    have ln : lenD [dsD ds] = some (.int (ds.length : Nat)) := by
      show some (PyData.int ((ds.map PC.Dl.D).length : Nat)) = _
      rw [List.length_map]
    have a4 := w4 (S := S) (K := K) (v3 := .val (.int (n : Nat))) (v5 := v5) (v6 := v6) (v7 := v7) (v8 := v8) (v9 := v9) (v10 := v10) (v11 := v11) (v12 := v12) (v14 := v14) (v15 := v15) (v17 := v17) (v18 := v18) (v21 := v21) (v22 := v22) (v23 := v23) h5 ln f4
    obtain ⟨d, ed⟩ : ∃ d, d = ds[a] := ⟨_, rfl⟩
    have sd : subD (dsD ds) (.int (a : Nat)) = some (.tuple [.int d.s, .int d.b, .int d.p, .int d.c, .int d.m]) := by
      show atI (ds.map PC.Dl.D) (a : Int) = _
      rw [atI_cast (by rw [List.length_map]; exact ha), List.getElem?_map, List.getElem?_eq_getElem ha, ← ed]
      rfl
    have dm : d ∈ ds := by rw [ed]; exact List.getElem_mem ha
    have od := dok d dm
    have a5 := w5 (S := S) (K := K) (v3 := .val (.int (n : Nat))) (v6 := v6) (v7 := v7) (v8 := v8) (v9 := v9) (v10 := v10) (v11 := v11) (v12 := v12) (v14 := v14) (v15 := v15) (v17 := v17) (v18 := v18) (v21 := v21) (v22 := v22) (v23 := v23) (b := b3) h6 h7 h8 h9 h10 sd
    obtain ⟨v', b4, hb4, v0, v1, f6⟩ := e_tk hb3 (n := ((d.c : Nat) : Int)) (by have := od.c0; omega) (by have := od.c1; omega)
    obtain ⟨v, rfl⟩ : ∃ v : Nat, v' = v := ⟨v'.toNat, by omega⟩
    have a6 := w6 (S := S) (K := K) (v3 := .val (.int (n : Nat))) (v4 := .val (dsD ds)) (v5 := .val (.int (a : Nat))) (v6 := .val (.int d.s)) (v7 := .val (.int d.b)) (v8 := .val (.int d.p)) (v10 := .val (.int d.m)) (v11 := v11) (v12 := v12) (v14 := v14) (v15 := v15) (v17 := v17) (v18 := v18) (v21 := v21) (v22 := v22) (v23 := v23) h11 f6
    have a7 := w7 (S := S) (K := K) (v3 := .val (.int (n : Nat))) (v4 := .val (dsD ds)) (v5 := .val (.int (a : Nat))) (v12 := v12) (v14 := v14) (v15 := v15) (v17 := v17) (v18 := v18) (v21 := v21) (v22 := v22) (v23 := v23) (b := b4) (d := d) (v := v) h12 (by omega)
    obtain ⟨cs, ecs⟩ : ∃ cs : List Nat, cs = ([v, d.c - v] : List Nat).filter fun c => decide (0 < c) := ⟨_, rfl⟩
    rw [← ecs] at a7
    have G : Cl4 n ds (ds.take a) (ds.drop (a + 1)) d cs := by
      refine ⟨by omega, by omega, dok, dp, dl.1, ?_, ?_, fun c hc => ?_, ?_⟩
      · rw [ed]
        conv => lhs; rw [← List.take_append_drop a ds]
        congr 1
        exact List.drop_eq_getElem_cons ha
      · rw [ecs]
        by_cases z : 0 < v
        · have z2 : 0 < d.c - v := by omega
          simp only [List.filter_cons, decide_eq_true z, decide_eq_true z2, if_true, List.filter_nil, List.sum_cons, List.sum_nil]
          omega
        · have z2 : 0 < d.c - v := by have := od.c0; omega
          simp only [List.filter_cons, decide_eq_false z, decide_eq_true z2, if_true, List.filter_nil, List.sum_cons, List.sum_nil]
          have : v = 0 := by omega
          subst this
          simp
      · rw [ecs] at hc
        obtain ⟨m, p⟩ := List.mem_filter.mp hc
        have p := of_decide_eq_true p
        simp only [List.mem_cons, List.not_mem_nil, or_false] at m
        omega
      · rw [ecs]
        exact Nat.le_trans (List.length_filter_le _ _) (by simp)
    have x2 : addD (.list ((ds.take a).map PC.Dl.D)) (dsD (cs.map (cnt d))) = some (.list ((ds.take a ++ cs.map (cnt d)).map PC.Dl.D)) := by
      refine (VL_addL (by simp only [List.length_map]; have := G.two; have := dl.1; rw [List.length_take]; omega)).trans ?_
      rw [List.map_append]
    have x3 : addD (.list ((ds.take a ++ cs.map (cnt d)).map PC.Dl.D)) (.list ((ds.drop (a + 1)).map PC.Dl.D)) = some (dsD (prt (ds.take a) (ds.drop (a + 1)) d cs)) := by
      refine (VL_addL (by simp only [List.length_map, List.length_append]; have := G.two; have := dl.1; rw [List.length_take, List.length_drop]; omega)).trans ?_
      unfold dsD prt
      rw [List.map_append (f := PC.Dl.D) (l₂ := ds.drop (a + 1))]
    have cl2 : cutD (dsD ds) (some ((a : Nat) + 1)) none = some (.list ((ds.drop (a + 1)).map PC.Dl.D)) := cutLo (n := a + 1)
    have a8 := w8 (S := S) (K := K) (v3 := .val (.int (n : Nat))) (v6 := .val (.int d.s)) (v7 := .val (.int d.b)) (v8 := .val (.int d.p)) (v9 := .val (.int d.c)) (v10 := .val (.int d.m)) (v11 := .val (.int (v : Nat))) (v14 := v14) (v15 := v15) (v17 := v17) (v18 := v18) (v21 := v21) (v22 := v22) (v23 := v23) (b := b4) h14 cutHi x2 cl2 x3
    have a9 := w9 (S := S) (K := K) (v3 := .val (.int (n : Nat))) (v5 := .val (.int (a : Nat))) (v6 := .val (.int d.s)) (v7 := .val (.int d.b)) (v8 := .val (.int d.p)) (v9 := .val (.int d.c)) (v10 := .val (.int d.m)) (v11 := .val (.int (v : Nat))) (v12 := .val (dsD (cs.map (cnt d)))) (v14 := .val (dsD (prt (ds.take a) (ds.drop (a + 1)) d cs))) (v15 := v15) (v17 := v17) (v18 := v18) (v21 := v21) (v22 := v22) (v23 := v23) (b := b4) h15 (ds := ds) (by omega)
    have a10 := w10 (S := S) (K := K) (v3 := .val (.int (n : Nat))) (v5 := .val (.int (a : Nat))) (v6 := .val (.int d.s)) (v7 := .val (.int d.b)) (v8 := .val (.int d.p)) (v9 := .val (.int d.c)) (v10 := .val (.int d.m)) (v11 := .val (.int (v : Nat))) (v12 := .val (dsD (cs.map (cnt d)))) (v14 := .val (dsD (prt (ds.take a) (ds.drop (a + 1)) d cs))) (v15 := .val (dsD (ds.map tn))) (v17 := v17) (v18 := v18) (v21 := v21) (v22 := v22) (v23 := v23) (b := b4) h17 (ds := ds) (by omega)
    obtain ⟨o11, f11⟩ := f_stands (n := n) (ds := ds) (by omega) dok
    obtain ⟨o12, f12⟩ := f_stands (n := n) (ds := prt (ds.take a) (ds.drop (a + 1)) d cs) (by omega) (ok_prt G)
    obtain ⟨o13, f13⟩ := f_stands (n := n) (ds := ds.map tn) (by omega) (ok_tn G)
    rw [rws_prt G] at f12
    have er : rws n (ds.map tn) = ST.rowsD n (fun i => 0 - PC.lots ds i) fun i => 0 - PC.coins ds i := by
      have e1 : PC.lots (ds.map tn) = fun i => 0 - PC.lots ds i := funext fun i => (turned_lots i).1
      have e2 : PC.coins (ds.map tn) = fun i => 0 - PC.coins ds i := funext fun i => (turned_lots i).2
      unfold rws
      rw [e1, e2]
    rw [er] at f13
    have a11 := w11 (S := S) (K := K) (v5 := .val (.int (a : Nat))) (v6 := .val (.int d.s)) (v7 := .val (.int d.b)) (v8 := .val (.int d.p)) (v9 := .val (.int d.c)) (v10 := .val (.int d.m)) (v11 := .val (.int (v : Nat))) (v12 := .val (dsD (cs.map (cnt d)))) (v14 := .val (dsD (prt (ds.take a) (ds.drop (a + 1)) d cs))) (v15 := .val (dsD (ds.map tn))) (v17 := .val (dsD (ds.map hi9))) (v18 := v18) (v21 := v21) (v22 := v22) (v23 := v23) (b := b4) (n := (n : Nat)) h18 rfl f11 td_tr
    have a12 := w12 (S := S) (K := K) (v4 := .val (dsD ds)) (v5 := .val (.int (a : Nat))) (v6 := .val (.int d.s)) (v7 := .val (.int d.b)) (v8 := .val (.int d.p)) (v9 := .val (.int d.c)) (v10 := .val (.int d.m)) (v11 := .val (.int (v : Nat))) (v12 := .val (dsD (cs.map (cnt d)))) (v15 := .val (dsD (ds.map tn))) (v17 := .val (dsD (ds.map hi9))) (v21 := v21) (v22 := v22) (v23 := v23) (b := b4) (n := (n : Nat)) (D14 := dsD (prt (ds.take a) (ds.drop (a + 1)) d cs)) f12 td_tr (eqv_self rows_sh (by decide))
    have c13 := w13c (S := S) (K := K) (v4 := .val (dsD ds)) (v5 := .val (.int (a : Nat))) (v6 := .val (.int d.s)) (v7 := .val (.int d.b)) (v8 := .val (.int d.p)) (v9 := .val (.int d.c)) (v10 := .val (.int d.m)) (v11 := .val (.int (v : Nat))) (v12 := .val (dsD (cs.map (cnt d)))) (v14 := .val (dsD (prt (ds.take a) (ds.drop (a + 1)) d cs))) (v17 := .val (dsD (ds.map hi9))) (v21 := v21) (v22 := v22) (v23 := v23) (b := b4) (n := (n : Nat)) (D15 := dsD (ds.map tn)) (m := n) (f := PC.lots ds) (g := PC.coins ds) (by omega)
    have a13 := w13 (S := S) (K := K) (v4 := .val (dsD ds)) (v5 := .val (.int (a : Nat))) (v6 := .val (.int d.s)) (v7 := .val (.int d.b)) (v8 := .val (.int d.p)) (v9 := .val (.int d.c)) (v10 := .val (.int d.m)) (v11 := .val (.int (v : Nat))) (v12 := .val (dsD (cs.map (cnt d)))) (v14 := .val (dsD (prt (ds.take a) (ds.drop (a + 1)) d cs))) (v17 := .val (dsD (ds.map hi9))) (v21 := v21) (v22 := v22) (v23 := v23) (b := b4) (n := (n : Nat)) (D15 := dsD (ds.map tn)) (xs := rws n ds) f13 td_tr c13 (eqv_self rows_sh (by decide))
    obtain ⟨ρ', a14, w21, w22, w23, z21, z22, z23, ez⟩ := r_for (D := fun i : Nat => .int (0 + (i : Nat))) (ds := List.range n) (fi := iRange1 (aCons (cVar 3) aNil)) (g := gN 21) (b := b_law_0) (ρ := [.val S, .val K, (.own .free (bgT b4)), .val (.int (n : Nat)), .val (dsD ds), .val (.int (a : Nat)), .val (.int d.s), .val (.int d.b), .val (.int d.p), .val (.int d.c), .val (.int d.m), .val (.int (v : Nat)), .val (dsD (cs.map (cnt d))), .no, .val (dsD (prt (ds.take a) (ds.drop (a + 1)) d cs)), .val (dsD (ds.map tn)), .no, .val (dsD (ds.map hi9)), .val (.list (rws n ds)), .no, .no, v21, v22, v23]) (fun _ ρ => ∃ w21 w22 w23, frB (some w21) = true ∧ frB (some w22) = true ∧ frB (some w23) = true ∧ ρ = [.val S, .val K, (.own .free (bgT b4)), .val (.int (n : Nat)), .val (dsD ds), .val (.int (a : Nat)), .val (.int d.s), .val (.int d.b), .val (.int d.p), .val (.int d.c), .val (.int d.m), .val (.int (v : Nat)), .val (dsD (cs.map (cnt d))), .no, .val (dsD (prt (ds.take a) (ds.drop (a + 1)) d cs)), .val (dsD (ds.map tn)), .no, .val (dsD (ds.map hi9)), .val (.list (rws n ds)), .no, .no, w21, w22, w23]) (r_rng rfl (by omega)) ⟨v21, v22, v23, h21, h22, h23, rfl⟩ (fun dn i ρ hi ⟨w21, w22, w23, z21, z22, z23, ez⟩ => by
      subst ez
      rw [Int.zero_add]
      obtain ⟨y22, y23, y1, y2, y3⟩ := member G (S := S) (K := K) (b := b4) (i := i) (v5 := .val (.int (a : Nat))) (v6 := .val (.int d.s)) (v7 := .val (.int d.b)) (v8 := .val (.int d.p)) (v9 := .val (.int d.c)) (v10 := .val (.int d.m)) (v11 := .val (.int (v : Nat))) (v12 := .val (dsD (cs.map (cnt d)))) z22 z23
      exact ⟨_, _, setSl_f z21, y3, _, _, _, rfl, y1, y2, rfl⟩)
    subst ez
    refine ⟨[.val S, .val K, (.own .free (bgT b4)), .val (.int (n : Nat)), .val (dsD ds), .val (.int (a : Nat)), .val (.int d.s), .val (.int d.b), .val (.int d.p), .val (.int d.c), .val (.int d.m), .val (.int (v : Nat)), .val (dsD (cs.map (cnt d))), .no, .val (dsD (prt (ds.take a) (ds.drop (a + 1)) d cs)), .val (dsD (ds.map tn)), .no, .val (dsD (ds.map hi9)), .val (.list (rws n ds)), .no, .no, w21, w22, w23], ?_, .mk rfl rfl rfl rfl rfl rfl rfl rfl rfl rfl rfl rfl rfl rfl rfl z21 z22 z23⟩
    unfold b_law_1
    rw [seq_nx a1, seq_nx a2, seq_nx a3, seq_nx a4, seq_nx a5, seq_nx a6, seq_nx a7, seq_nx a8, seq_nx a9, seq_nx a10, seq_nx a11, seq_nx a12, seq_nx a13]
    exact a14
theorem law_true : ∀ ns : List Int, ns.length ≤ 63 → ∃ outs, F_law [.val (scrD ns)] = some (.ret (.dat (.bool true)), outs) := by
  intro ns hns
  obtain ⟨m, em⟩ : ∃ m : Nat, (1 + (if (10 : Int) < ((ns.length : Nat) : Int) then (10 : Int) else ((ns.length : Nat) : Int)) : Int) = (m : Int) := ⟨(1 + (if (10 : Int) < ((ns.length : Nat) : Int) then (10 : Int) else ((ns.length : Nat) : Int)) : Int).toNat, by split <;> omega⟩
  have hm : m ≤ 41 := by split at em <;> omega
  have lp : ∀ (l : List Nat) (ρ : Rho), (∀ k ∈ l, k ≤ 40) → (∃ K, JC (scrD ns) K ρ) → ∃ ρ', loopF (gN 1) b_law_1 (l.map fun k => .int (0 + (k : Nat))) ρ = some (.nx ρ') ∧ ∃ K, JC (scrD ns) K ρ' := by
    intro l
    induction l with
    | nil => exact fun ρ _ h => ⟨ρ, rfl, h⟩
    | cons k l ih =>
      intro ρ hl ⟨K, h⟩
      have h1 : ∃ ρ1, gN 1 (.int (0 + (k : Nat))) ρ = some ρ1 ∧ JC (scrD ns) (.int (k : Nat)) ρ1 := by
        rw [Int.zero_add]
        cases h with
        | mk h2 h3 h4 h5 h6 h7 h8 h9 h10 h11 h12 h14 h15 h17 h18 h21 h22 h23 => exact ⟨_, setSl_f rfl, .mk h2 h3 h4 h5 h6 h7 h8 h9 h10 h11 h12 h14 h15 h17 h18 h21 h22 h23⟩
      obtain ⟨ρ1, g1, h1⟩ := h1
      obtain ⟨ρ2, e2, h2⟩ := cell (hl k List.mem_cons_self) h1
      obtain ⟨ρ3, e3, h3⟩ := ih ρ2 (fun j hj => hl j (List.mem_cons_of_mem _ hj)) ⟨_, h2⟩
      exact ⟨ρ3, by rw [List.map_cons, loop_cons g1 e2]; exact e3, h3⟩
  obtain ⟨ρ', lq, K, hJ⟩ : ∃ ρ', loopF (gN 1) b_law_1 ((List.range' 0 m).map fun k => .int (0 + (k : Nat))) (.val (scrD ns) :: [.no, .no, .no, .no, .no, .no, .no, .no, .no, .no, .no, .no, .no, .no, .no, .no, .no, .no, .no, .no, .no, .no, .no]) = some (.nx ρ') ∧ ∃ K, JC (scrD ns) K ρ' := by
    cases m with
    | zero => exfalso; split at em <;> omega
    | succ m =>
      have e0 := (JC.mk (S := scrD ns) (K := .int (0 : Nat)) (v2 := .no) (v3 := .no) (v4 := .no) (v5 := .no) (v6 := .no) (v7 := .no) (v8 := .no) (v9 := .no) (v10 := .no) (v11 := .no) (v12 := .no) (v14 := .no) (v15 := .no) (v17 := .no) (v18 := .no) (v21 := .no) (v22 := .no) (v23 := .no) rfl rfl rfl rfl rfl rfl rfl rfl rfl rfl rfl rfl rfl rfl rfl rfl rfl rfl)
      obtain ⟨ρ2, e2, h2⟩ := cell (k := 0) (by omega) e0
      obtain ⟨ρ3, e3, h3⟩ := lp (List.range' 1 m) ρ2 (fun k hk => by have := List.mem_range'.mp hk; omega) ⟨_, h2⟩
      refine ⟨ρ3, ?_, h3⟩
      rw [List.range'_succ, List.map_cons, loop_cons (setSl_f rfl) e2]
      exact e3
  have a2 := for_ok (b := b_law_1) (cell_range (vs := [.no, .no, .no, .no, .no, .no, .no, .no, .no, .no, .no, .no, .no, .no, .no, .no, .no, .no, .no, .no, .no, .no, .no]) em (by omega)) lq
  have h0 : ∃ vs, ρ' = .val (scrD ns) :: vs := by
    cases hJ
    exact ⟨_, rfl⟩
  obtain ⟨vs, rfl⟩ := h0
  refine ⟨[.val (scrD ns)], ?_⟩
  unfold F_law
  refine (run_rt (t := .dat (.bool true)) (ρ' := .val (scrD ns) :: vs) ?_).trans rfl
  unfold g_law
  show sSeq _ _ (.val (scrD ns) :: [.no, .no, .no, .no, .no, .no, .no, .no, .no, .no, .no, .no, .no, .no, .no, .no, .no, .no, .no, .no, .no, .no, .no]) = _
  rw [seq_nx a2]
  simp! only [setSl, List.replicate, pinS, Md.unb, VR.ap_fld1, VR.ap_pFld, VR.ap_pKey, VR.ap_keyT1]
end K37

end

section
set_option Elab.async false
set_option linter.all false
set_option maxRecDepth 100000
set_option maxHeartbeats 0
namespace K37
open PySem PySem.Spec PyProof.Rows L2 VL SM SN
theorem all_mk {l : PySem.W.OpenLaw} {w : World} {K : PySem.W.Frag} {h : Heap} {mg : Str → Option Value} {fa : Addr} (X : K.In h) (G : h.Ns mainGlobals mg) (hfa : mg "law" = some (.ref fa))
    {od1 an1 : Option Addr} {sl1 : Array (Option Value)} {f1 : Addr} {oc1 kV1 dc1 pm1 cd1 ct1 : Value} {od2 an2 : Option Addr} {sl2 : Array (Option Value)} {f2 : Addr} {oc2 kV2 dc2 pm2 cd2 ct2 : Value} {od3 an3 : Option Addr} {sl3 : Array (Option Value)} {f3 : Addr} {oc3 kV3 dc3 pm3 cd3 ct3 : Value} {od4 an4 : Option Addr} {sl4 : Array (Option Value)} {f4 : Addr} {oc4 kV4 dc4 pm4 cd4 ct4 : Value} {od5 an5 : Option Addr} {sl5 : Array (Option Value)} {f5 : Addr} {oc5 kV5 dc5 pm5 cd5 ct5 : Value} {od6 an6 : Option Addr} {sl6 : Array (Option Value)} {f6 : Addr} {oc6 kV6 dc6 pm6 cd6 ct6 : Value} {od7 an7 : Option Addr} {sl7 : Array (Option Value)} {f7 : Addr} {oc7 kV7 dc7 pm7 cd7 ct7 : Value} {od8 an8 : Option Addr} {sl8 : Array (Option Value)} {f8 : Addr} {oc8 kV8 dc8 pm8 cd8 ct8 : Value} {od9 an9 : Option Addr} {sl9 : Array (Option Value)} {f9 : Addr} {oc9 kV9 dc9 pm9 cd9 ct9 : Value} {od10 an10 : Option Addr} {sl10 : Array (Option Value)} {f10 : Addr} {oc10 kV10 dc10 pm10 cd10 ct10 : Value} {od11 an11 : Option Addr} {sl11 : Array (Option Value)} {f11 : Addr} {oc11 kV11 dc11 pm11 cd11 ct11 : Value} {i1 : Tok} {i2 : Tok}
    (a1 : PySem.W.nsIn K mainGlobals "stands" = some (some (.ref f1))) (l1 : K.lookup f1 = some ⟨oc1, od1, .func (PySem.W.fnOf "stands" "stands" (defArgs st_stands) (defBody st_stands) (defScope st_stands) .none kV1 dc1 pm1 an1 cd1 ct1), sl1⟩) (c1 : PySem.W.codeIn K cd1 "stands" = true) (k1 : PySem.W.keepIn K (.ref f1) = true)
    (a2 : PySem.W.nsIn K mainGlobals "deals_of" = some (some (.ref f2))) (l2 : K.lookup f2 = some ⟨oc2, od2, .func (PySem.W.fnOf "deals_of" "deals_of" (defArgs st_deals_of) (defBody st_deals_of) (defScope st_deals_of) .none kV2 dc2 pm2 an2 cd2 ct2), sl2⟩) (c2 : PySem.W.codeIn K cd2 "deals_of" = true) (k2 : PySem.W.keepIn K (.ref f2) = true)
    (a3 : PySem.W.nsIn K mainGlobals "_law_bag" = some (some (.ref f3))) (l3 : K.lookup f3 = some ⟨oc3, od3, .func (PySem.W.fnOf "_law_bag" "_law_bag" (defArgs st__law_bag) (defBody st__law_bag) (defScope st__law_bag) .none kV3 dc3 pm3 an3 cd3 ct3), sl3⟩) (c3 : PySem.W.codeIn K cd3 "_law_bag" = true) (k3 : PySem.W.keepIn K (.ref f3) = true)
    (a4 : PySem.W.nsIn K mainGlobals "_law_take" = some (some (.ref f4))) (l4 : K.lookup f4 = some ⟨oc4, od4, .func (PySem.W.fnOf "_law_take" "_law_take" (defArgs st__law_take) (defBody st__law_take) (defScope st__law_take) .none kV4 dc4 pm4 an4 cd4 ct4), sl4⟩) (c4 : PySem.W.codeIn K cd4 "_law_take" = true) (k4 : PySem.W.keepIn K (.ref f4) = true)
    (a5 : PySem.W.nsIn K mainGlobals "_law_sums" = some (some (.ref f5))) (l5 : K.lookup f5 = some ⟨oc5, od5, .func (PySem.W.fnOf "_law_sums" "_law_sums" (defArgs st__law_sums) (defBody st__law_sums) (defScope st__law_sums) .none kV5 dc5 pm5 an5 cd5 ct5), sl5⟩) (c5 : PySem.W.codeIn K cd5 "_law_sums" = true) (k5 : PySem.W.keepIn K (.ref f5) = true)
    (a6 : PySem.W.nsIn K mainGlobals "_law_turned" = some (some (.ref f6))) (l6 : K.lookup f6 = some ⟨oc6, od6, .func (PySem.W.fnOf "_law_turned" "_law_turned" (defArgs st__law_turned) (defBody st__law_turned) (defScope st__law_turned) .none kV6 dc6 pm6 an6 cd6 ct6), sl6⟩) (c6 : PySem.W.codeIn K cd6 "_law_turned" = true) (k6 : PySem.W.keepIn K (.ref f6) = true)
    (a7 : PySem.W.nsIn K mainGlobals "_law_unlike" = some (some (.ref f7))) (l7 : K.lookup f7 = some ⟨oc7, od7, .func (PySem.W.fnOf "_law_unlike" "_law_unlike" (defArgs st__law_unlike) (defBody st__law_unlike) (defScope st__law_unlike) .none kV7 dc7 pm7 an7 cd7 ct7), sl7⟩) (c7 : PySem.W.codeIn K cd7 "_law_unlike" = true) (k7 : PySem.W.keepIn K (.ref f7) = true)
    (a8 : PySem.W.nsIn K mainGlobals "pieces" = some (some (.ref f8))) (l8 : K.lookup f8 = some ⟨oc8, od8, .func (PySem.W.fnOf "pieces" "pieces" (defArgs st_pieces) (defBody st_pieces) (defScope st_pieces) .none kV8 dc8 pm8 an8 cd8 ct8), sl8⟩) (c8 : PySem.W.codeIn K cd8 "pieces" = true) (k8 : PySem.W.keepIn K (.ref f8) = true)
    (a9 : PySem.W.nsIn K mainGlobals "_law_small_deals" = some (some (.ref f9))) (l9 : K.lookup f9 = some ⟨oc9, od9, .func (PySem.W.fnOf "_law_small_deals" "_law_small_deals" (defArgs st__law_small_deals) (defBody st__law_small_deals) (defScope st__law_small_deals) .none kV9 dc9 pm9 an9 cd9 ct9), sl9⟩) (c9 : PySem.W.codeIn K cd9 "_law_small_deals" = true) (k9 : PySem.W.keepIn K (.ref f9) = true)
    (a10 : PySem.W.nsIn K mainGlobals "gain" = some (some (.ref f10))) (l10 : K.lookup f10 = some ⟨oc10, od10, .func (PySem.W.fnOf "gain" "gain" (defArgs st_gain) (defBody st_gain) (defScope st_gain) .none kV10 dc10 pm10 an10 cd10 ct10), sl10⟩) (c10 : PySem.W.codeIn K cd10 "gain" = true) (k10 : PySem.W.keepIn K (.ref f10) = true)
    (a11 : PySem.W.nsIn K mainGlobals "law" = some (some (.ref f11))) (l11 : K.lookup f11 = some ⟨oc11, od11, .func (PySem.W.fnOf "law" "law" (defArgs st_law) (defBody st_law) (defScope st_law) .none kV11 dc11 pm11 an11 cd11 ct11), sl11⟩) (c11 : PySem.W.codeIn K cd11 "law" = true) (k11 : PySem.W.keepIn K (.ref f11) = true)
    (z1 : PySem.W.nsIn K mainGlobals "int" = some none)
    (z2 : PySem.W.nsIn K mainGlobals "len" = some none)
    (z3 : PySem.W.nsIn K mainGlobals "list" = some none)
    (z4 : PySem.W.nsIn K mainGlobals "min" = some none)
    (z5 : PySem.W.nsIn K mainGlobals "range" = some none)
    (z6 : PySem.W.nsIn K mainGlobals "set" = some none)
    (z7 : PySem.W.nsIn K mainGlobals "sorted" = some none)
    (z8 : PySem.W.nsIn K mainGlobals "zip" = some none)
    (j1 : PySem.W.nsIn K mainGlobals "HAD" = some (some (.str "had" i1)))
    (j2 : PySem.W.nsIn K mainGlobals "OWED" = some (some (.str "owed" i2)))
    : ∃ fd : FuncData, (∀ (s : Shared) (v : Value), BindsTo s fd ⟨[v], []⟩ [("script", v)]) ∧ ∀ base : Heap, K.In base → base.Ns mainGlobals mg → TbB K base mg → FnOk l.prog w K mg base CX0 4 fa fd ["script"] (spLaw K) := by
  have e := hfa.symm.trans (PySem.W.mg_of X G a11)
  cases e
  have F1 := fun_mk (st := st_stands) l1 c1 k1
  have b1 := F1.binds (ps := ["many", "deals"]) fun _ _ _ _ _ _ us hl => match us, hl with | [_, _], _ => rfl
  have F2 := fun_mk (st := st_deals_of) l2 c2 k2
  have b2 := F2.binds (ps := ["deals", "member"]) fun _ _ _ _ _ _ us hl => match us, hl with | [_, _], _ => rfl
  have F3 := fun_mk (st := st__law_bag) l3 c3 k3
  have b3 := F3.binds (ps := ["script", "k"]) fun _ _ _ _ _ _ us hl => match us, hl with | [_, _], _ => rfl
  have F4 := fun_mk (st := st__law_take) l4 c4 k4
  have b4 := F4.binds (ps := ["bag", "many"]) fun _ _ _ _ _ _ us hl => match us, hl with | [_, _], _ => rfl
  have F5 := fun_mk (st := st__law_sums) l5 c5 k5
  have b5 := F5.binds (ps := ["told"]) fun _ _ _ _ _ _ us hl => match us, hl with | [_], _ => rfl
  have F6 := fun_mk (st := st__law_turned) l6 c6 k6
  have b6 := F6.binds (ps := ["told"]) fun _ _ _ _ _ _ us hl => match us, hl with | [_], _ => rfl
  have F7 := fun_mk (st := st__law_unlike) l7 c7 k7
  have b7 := F7.binds (ps := ["deals", "member"]) fun _ _ _ _ _ _ us hl => match us, hl with | [_, _], _ => rfl
  have F8 := fun_mk (st := st_pieces) l8 c8 k8
  have b8 := F8.binds (ps := ["deals", "member"]) fun _ _ _ _ _ _ us hl => match us, hl with | [_, _], _ => rfl
  have F9 := fun_mk (st := st__law_small_deals) l9 c9 k9
  have b9 := F9.binds (ps := ["bag", "members", "most"]) fun _ _ _ _ _ _ us hl => match us, hl with | [_, _, _], _ => rfl
  have F10 := fun_mk (st := st_gain) l10 c10 k10
  have b10 := F10.binds (ps := ["deals", "member", "price"]) fun _ _ _ _ _ _ us hl => match us, hl with | [_, _, _], _ => rfl
  have F11 := fun_mk (st := st_law) l11 c11 k11
  have b11 := F11.binds (ps := ["script"]) fun _ _ _ _ _ _ us hl => match us, hl with | [_], _ => rfl
  have A : All K w mg ⟨f1, PySem.W.fnOf "stands" "stands" (defArgs st_stands) (defBody st_stands) (defScope st_stands) .none kV1 dc1 pm1 an1 cd1 ct1, f2, PySem.W.fnOf "deals_of" "deals_of" (defArgs st_deals_of) (defBody st_deals_of) (defScope st_deals_of) .none kV2 dc2 pm2 an2 cd2 ct2, f3, PySem.W.fnOf "_law_bag" "_law_bag" (defArgs st__law_bag) (defBody st__law_bag) (defScope st__law_bag) .none kV3 dc3 pm3 an3 cd3 ct3, f4, PySem.W.fnOf "_law_take" "_law_take" (defArgs st__law_take) (defBody st__law_take) (defScope st__law_take) .none kV4 dc4 pm4 an4 cd4 ct4, f5, PySem.W.fnOf "_law_sums" "_law_sums" (defArgs st__law_sums) (defBody st__law_sums) (defScope st__law_sums) .none kV5 dc5 pm5 an5 cd5 ct5, f6, PySem.W.fnOf "_law_turned" "_law_turned" (defArgs st__law_turned) (defBody st__law_turned) (defScope st__law_turned) .none kV6 dc6 pm6 an6 cd6 ct6, f7, PySem.W.fnOf "_law_unlike" "_law_unlike" (defArgs st__law_unlike) (defBody st__law_unlike) (defScope st__law_unlike) .none kV7 dc7 pm7 an7 cd7 ct7, f8, PySem.W.fnOf "pieces" "pieces" (defArgs st_pieces) (defBody st_pieces) (defScope st_pieces) .none kV8 dc8 pm8 an8 cd8 ct8, f9, PySem.W.fnOf "_law_small_deals" "_law_small_deals" (defArgs st__law_small_deals) (defBody st__law_small_deals) (defScope st__law_small_deals) .none kV9 dc9 pm9 an9 cd9 ct9, f10, PySem.W.fnOf "gain" "gain" (defArgs st_gain) (defBody st_gain) (defScope st_gain) .none kV10 dc10 pm10 an10 cd10 ct10, fa, PySem.W.fnOf "law" "law" (defArgs st_law) (defBody st_law) (defScope st_law) .none kV11 dc11 pm11 an11 cd11 ct11⟩ := ⟨F1, PySem.W.mg_of X G a1, b1, F2, PySem.W.mg_of X G a2, b2, F3, PySem.W.mg_of X G a3, b3, F4, PySem.W.mg_of X G a4, b4, F5, PySem.W.mg_of X G a5, b5, F6, PySem.W.mg_of X G a6, b6, F7, PySem.W.mg_of X G a7, b7, F8, PySem.W.mg_of X G a8, b8, F9, PySem.W.mg_of X G a9, b9, F10, PySem.W.mg_of X G a10, b10, F11, PySem.W.mg_of X G a11, b11, PySem.W.mg_none_of X G z1, PySem.W.mg_none_of X G z2, PySem.W.mg_none_of X G z3, PySem.W.mg_none_of X G z4, PySem.W.mg_none_of X G z5, PySem.W.mg_none_of X G z6, PySem.W.mg_none_of X G z7, PySem.W.mg_none_of X G z8, ⟨_, PySem.W.mg_of X G j1⟩, ⟨_, PySem.W.mg_of X G j2⟩⟩
  exact ⟨_, fun s v => .of_eq rfl, fun base _ _ hB => (ok_law A).imp fun vs H Q E h => law_imp law_true h⟩
end K37
theorem PySem.W.Fast.te16349442242729083728 : True := trivial
open PySem PySem.W PyProof.Rows
set_option maxRecDepth 100000 in
set_option maxHeartbeats 0 in
theorem PySem.Challenge.cw_palmhall_k37_whole_deals_parted_holds : PySem.Challenge.rw_palmhall_k37_whole_deals_parted.Holds := by
  w_on; o_law; k_head; (case hw => w_witness2)
  k_fill
  refine VL.walk (l := PySem.Challenge.rw_palmhall_k37_whole_deals_parted) (k := 4) rfl rfl ⟨rfl, by decide, by decide⟩ (fun w h Y => PySem.W.kIn_of Y) ?T ?F
  case T => intro w; kernel_rfl
  case F =>
    intro w mg fa h KX G hmg
    refine' K37.all_mk KX G hmg ?a1 ?l1 ?c1 ?k1 ?a2 ?l2 ?c2 ?k2 ?a3 ?l3 ?c3 ?k3 ?a4 ?l4 ?c4 ?k4 ?a5 ?l5 ?c5 ?k5 ?a6 ?l6 ?c6 ?k6 ?a7 ?l7 ?c7 ?k7 ?a8 ?l8 ?c8 ?k8 ?a9 ?l9 ?c9 ?k9 ?a10 ?l10 ?c10 ?k10 ?a11 ?l11 ?c11 ?k11 ?z1 ?z2 ?z3 ?z4 ?z5 ?z6 ?z7 ?z8 ?j1 ?j2
    (case a1 => k_is)
    (case l1 => k_is)
    (case c1 => k_is)
    (case k1 => k_is)
    (case a2 => k_is)
    (case l2 => k_is)
    (case c2 => k_is)
    (case k2 => k_is)
    (case a3 => k_is)
    (case l3 => k_is)
    (case c3 => k_is)
    (case k3 => k_is)
    (case a4 => k_is)
    (case l4 => k_is)
    (case c4 => k_is)
    (case k4 => k_is)
    (case a5 => k_is)
    (case l5 => k_is)
    (case c5 => k_is)
    (case k5 => k_is)
    (case a6 => k_is)
    (case l6 => k_is)
    (case c6 => k_is)
    (case k6 => k_is)
    (case a7 => k_is)
    (case l7 => k_is)
    (case c7 => k_is)
    (case k7 => k_is)
    (case a8 => k_is)
    (case l8 => k_is)
    (case c8 => k_is)
    (case k8 => k_is)
    (case a9 => k_is)
    (case l9 => k_is)
    (case c9 => k_is)
    (case k9 => k_is)
    (case a10 => k_is)
    (case l10 => k_is)
    (case c10 => k_is)
    (case k10 => k_is)
    (case a11 => k_is)
    (case l11 => k_is)
    (case c11 => k_is)
    (case k11 => k_is)
    (case z1 => k_is)
    (case z2 => k_is)
    (case z3 => k_is)
    (case z4 => k_is)
    (case z5 => k_is)
    (case z6 => k_is)
    (case z7 => k_is)
    (case z8 => k_is)
    (case j1 => k_is)
    (case j2 => k_is)

end
