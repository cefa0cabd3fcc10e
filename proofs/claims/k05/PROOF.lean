import PyProof.Rows.All
import Wide.All
import OpenK.AllK
import Wide.FinOn
import HandS.ForMost
import HandS.ForExc
import HandS.Deep
import HandS.CallSlots
import HandS.Lambda
import KE.KNest
import HandS.TupAny
import HandS.Wide
import HandS.IsInst
import HandS.Walk
import HandS.Zip
import HandS.Text
import KE.GoesEnum
import HandS.More
import HandS.EndTab
import HandS.Style
import HandS.SetFor
import KE.SortData
import KE.KDictZip
import PyProof.ListNew
import KE.KDictDisplayH
import HandS.SortInts
import KE.DataMinMax
import HandS.Flow
import HandS.HotCalls
import HandS.ExcIs
import KE.DataFind
import KE.KDictLaws
import KE.SortKeyHeap
import HandS.SortKw
import HandS.TupSets
import HandS.Strs
import HandS.WideBits
import PySem.Challenge.RW_palmhall_k05_signs_apart
section
set_option Elab.async false
set_option linter.all false
set_option maxRecDepth 100000
namespace VL
open PySem PySem.Spec PyProof.Rows L2

noncomputable abbrev Fg := PySem.W.Frag
noncomputable abbrev Sg := List (Option V)
noncomputable abbrev FP := Nat → List Addr
inductive Tr where
  | dat (d : PyData)
  | tup (ts : List Tr)
  | lst (ts : List Tr)
  | dk (kvs : List (Key × Tr))
  | dt (kvs : List (List Key × Tr))
  | ins (c : Str) (fs : List (Str × Tr))
  /-- dicts that are walked and no more written -/
  | fk (kvs : List (Key × PyData))
  | ft (kvs : List (List Key × PyData))
  /-- a value that is known, of no meaning; one that is not known -/
  | raw (v : V)
  /-- a dict of data that is frozen: it may stand in several trees -/
  | sd (kvs : List (Key × PyData))
  | hole
inductive Md where
  | free | pin | lock
  /-- a pinned tree of which a local names the part at p -/
  | bor (p : List Nat)
noncomputable def Md.pn : Md → Bool
  | .pin => true
  | .bor _ => true
  | _ => false
inductive Sl where
  | no
  | val (d : PyData)
  | own (m : Md) (t : Tr)
  /-- the part at p of slot i, while that is borrowed at p -/
  | al (i : Nat) (p : List Nat)
noncomputable abbrev Rho := List Sl

noncomputable def sg (σ : Sg) (i : Nat) : Option V := (σ[i]?).getD none
theorem sg_some {σ : Sg} {i : Nat} {v : V} : sg σ i = some v ↔ σ[i]? = some (some v) := by
  unfold sg
  cases h : σ[i]? with
  | none => simp
  | some x => simp

theorem rd_mono {H H' : Hp} {a : Addr} {u : HO} (e : Same H H') (h : Rd H a u) : Rd H' a u := by
  rcases h with h | ⟨o, h⟩
  · exact .inl (e _ _ h)
  · exact .inr ⟨o, e _ _ h⟩
noncomputable def isInt : PyData → Bool
  | .int _ => true
  | _ => false
noncomputable def kOk (ds : List PyData) : Bool := decide (ds.length ≤ 1) || ds.all isInt
noncomputable def TupA (K : Fg) (H : Hp) (a : Addr) (xs : List V) (ds : List PyData) : Prop :=
  H a = some (.tup xs) ∨ (kOk ds = true ∧ ∃ (o : Obj) (its : Array Value) (n : Nat), K.lookup a = some o ∧ o.cls = .type "tuple" ∧ o.data = .seq its n ∧ its.size ≤ sizeLine ∧ Vals xs its.toList)
theorem TupA.sq {K : Fg} {H : Hp} {a : Addr} {xs : List V} {ds : List PyData} (h : TupA K H a xs ds) : SqT K H a xs := by
  rcases h with h | ⟨_, h⟩
  · exact SqT.of h
  · exact .inr h
theorem TupA.mono {K : Fg} {H H' : Hp} {a : Addr} {xs : List V} {ds : List PyData} (h : TupA K H a xs ds) (s : Same H H') : TupA K H' a xs ds := by
  rcases h with h | h
  · exact .inl (s _ _ h)
  · exact .inr h
mutual
/-- data: as Dp of the layer, but that a list stands in H -/
inductive Dq (K : Fg) (H : Hp) : V → PyData → Prop
  | non : Dq K H .non .none
  | bl (b : Bool) : Dq K H (.bl b) (.bool b)
  | int (i : Int) : Dq K H (.int i) (.int i)
  | str (x : Str) : Dq K H (.str x) (.str x)
  | lst {a : Addr} {xs : List V} {ds : List PyData} : Rd H a (.lst xs) → DqAll K H xs ds → Dq K H (.ref a) (.list ds)
  | tups {a : Addr} {xs : List V} {ds : List PyData} : TupA K H a xs ds → DqAll K H xs ds → Dq K H (.ref a) (.tuple ds)
  /-- the script: a list of ints that may stand in the written part; told as a dict, so that nothing but its items and its length is asked -/
  | scr {a : Addr} {ns : List Int} : SqL K H a (ns.map V.int) → Dq K H (.ref a) (.dict (ns.map fun i => (.int i, .none)))
inductive DqAll (K : Fg) (H : Hp) : List V → List PyData → Prop
  | nil : DqAll K H [] []
  | cons {v : V} {vs : List V} {d : PyData} {ds : List PyData} : Dq K H v d → DqAll K H vs ds → DqAll K H (v :: vs) (d :: ds)
end
theorem Dq.tup {K : Fg} {H : Hp} {a : Addr} {xs : List V} {ds : List PyData} (h : H a = some (.tup xs)) (ha : DqAll K H xs ds) : Dq K H (.ref a) (.tuple ds) := .tups (.inl h) ha
mutual
theorem dq_dp {K : Fg} {F : Hp} : ∀ (d : PyData) (v : V), d.canLay0 = true → Dq K F v d → L2.Dp K F v d
  | .none, _, _, h => by cases h; exact .non
  | .bool b, _, _, h => by cases h; exact .bl b
  | .int i, _, _, h => by cases h; exact .int i
  | .str x, _, _, h => by cases h; exact .str x
  | .list ds, _, c, h => by
    cases h with
    | lst hs ha => exact .lst (.inl hs) (dqAll_dp ds _ (by simpa [PyData.canLay0] using c) ha)
  | .tuple ds, _, c, h => by
    cases h with
    | tups hs ha => exact .tup hs.sq (dqAll_dp ds _ (by simpa [PyData.canLay0] using c) ha)
  | .dict _, _, c, _ => by simp [PyData.canLay0] at c
theorem dqAll_dp {K : Fg} {F : Hp} : ∀ (ds : List PyData) (vs : List V), PyData.canLayAll0 ds = true → DqAll K F vs ds → L2.DpAll K F vs ds
  | [], _, _, h => by cases h; exact .nil
  | d :: ds, _, c, h => by
    have c' : d.canLay0 = true ∧ PyData.canLayAll0 ds = true := by simpa [PyData.canLayAll0] using c
    cases h with
    | cons h1 h2 => exact .cons (dq_dp d _ c'.1 h1) (dqAll_dp ds _ c'.2 h2)
end
mutual
theorem dq_mono {K : Fg} {F F' : Hp} (s : Same F F') : ∀ (d : PyData) (v : V), Dq K F v d → Dq K F' v d
  | .none, _, h => by cases h; exact .non
  | .bool b, _, h => by cases h; exact .bl b
  | .int i, _, h => by cases h; exact .int i
  | .str x, _, h => by cases h; exact .str x
  | .list ds, _, h => by
    cases h with
    | lst hs ha => exact .lst (rd_mono s hs) (dqAll_mono s ds _ ha)
  | .tuple ds, _, h => by
    cases h with
    | tups hs ha => exact .tups (hs.mono s) (dqAll_mono s ds _ ha)
  | .dict _, _, h => by
    cases h with
    | scr hs => exact .scr (s.seq hs)
theorem dqAll_mono {K : Fg} {F F' : Hp} (s : Same F F') : ∀ (ds : List PyData) (vs : List V), DqAll K F vs ds → DqAll K F' vs ds
  | [], _, h => by cases h; exact .nil
  | d :: ds, _, h => by
    cases h with
    | cons h1 h2 => exact .cons (dq_mono s d _ h1) (dqAll_mono s ds _ h2)
end
theorem dqAll_len {K : Fg} {F : Hp} : ∀ {vs : List V} {ds : List PyData}, DqAll K F vs ds → vs.length = ds.length
  | _, _, .nil => rfl
  | _, _, .cons _ t => by simp [dqAll_len t]
theorem dqAll_get {K : Fg} {F : Hp} : ∀ {vs : List V} {ds : List PyData} {i : Nat} {d : PyData}, DqAll K F vs ds → ds[i]? = some d → ∃ v, vs[i]? = some v ∧ Dq K F v d
  | _, _, _, _, .nil, e => by simp at e
  | _, _, 0, _, .cons r _, e => by simp at e; subst e; exact ⟨_, rfl, r⟩
  | _, _, i + 1, x, .cons _ t, e => by
    obtain ⟨u, h1, h2⟩ := dqAll_get (i := i) (d := x) t (by simpa using e)
    exact ⟨u, by simpa using h1, h2⟩
theorem dqAll_app {K : Fg} {F : Hp} : ∀ {vs ws : List V} {ds es : List PyData}, DqAll K F vs ds → DqAll K F ws es → DqAll K F (vs ++ ws) (ds ++ es)
  | _, _, _, _, .nil, s => s
  | _, _, _, _, .cons r t, s => .cons r (dqAll_app t s)
theorem dqAll_take {K : Fg} {F : Hp} : ∀ {vs : List V} {ds : List PyData} (n : Nat), DqAll K F vs ds → DqAll K F (vs.take n) (ds.take n)
  | _, _, 0, _ => .nil
  | _, _, _ + 1, .nil => .nil
  | _, _, n + 1, .cons r t => .cons r (dqAll_take n t)
theorem dqAll_drop {K : Fg} {F : Hp} : ∀ {vs : List V} {ds : List PyData} (n : Nat), DqAll K F vs ds → DqAll K F (vs.drop n) (ds.drop n)
  | _, _, 0, r => r
  | _, _, _ + 1, .nil => .nil
  | _, _, n + 1, .cons _ t => dqAll_drop n t

noncomputable def Prs {κ : Type} (K : Fg) (F : Hp) (vs : List (κ × V)) (ds : List (κ × PyData)) : Prop := vs.map (·.1) = ds.map (·.1) ∧ DqAll K F (vs.map (·.2)) (ds.map (·.2))
theorem Prs.mono {κ : Type} {K : Fg} {F F' : Hp} {vs : List (κ × V)} {ds : List (κ × PyData)} (s : Same F F') (h : Prs K F vs ds) : Prs K F' vs ds := ⟨h.1, dqAll_mono s _ _ h.2⟩
noncomputable def KT (H : Hp) (b : Addr) : Prop := (∃ ks : List Key, H b = some (.tup (ks.map kV))) ∨ ∃ ps, H b = some (.tbl ps)
mutual
inductive TrOk (K : Fg) (F H : Hp) : V → Tr → List Addr → Prop
  | dat {v : V} {d : PyData} : Dq K F v d → TrOk K F H v (.dat d) []
  | tup {a : Addr} {vs : List V} {ts : List Tr} {A : List Addr} : H a = some (.tup vs) → (F a = none ∧ ∀ ks : List Key, vs ≠ ks.map kV) → TrsOk K F H vs ts A → TrOk K F H (.ref a) (.tup ts) (a :: A)
  | lst {a : Addr} {vs : List V} {ts : List Tr} {A : List Addr} : H a = some (.lst vs) → F a = none → TrsOk K F H vs ts A → TrOk K F H (.ref a) (.lst ts) (a :: A)
  | dk {a : Addr} {vs : List (Key × V)} {ts : List (Key × Tr)} {A : List Addr} : H a = some (.dK vs) → F a = none → vs.map (·.1) = ts.map (·.1) → TrsOk K F H (vs.map (·.2)) (ts.map (·.2)) A → TrOk K F H (.ref a) (.dk ts) (a :: A)
  | dt {a : Addr} {vs : List (List Key × V)} {ts : List (List Key × Tr)} {A : List Addr} : H a = some (.dT vs) → F a = none → vs.map (·.1) = ts.map (·.1) → TrsOk K F H (vs.map (·.2)) (ts.map (·.2)) A → TrOk K F H (.ref a) (.dt ts) (a :: A)
  | ins {a C dx : Addr} {c : Str} {vs : List (Str × V)} {ts : List (Str × Tr)} {A : List Addr} : H a = some (.ins C dx vs) → F a = none → PySem.W.nsIn K mainGlobals c = some (some (.ref C)) → vs.map (·.1) = ts.map (·.1) → TrsOk K F H (vs.map (·.2)) (ts.map (·.2)) A → TrOk K F H (.ref a) (.ins c ts) (a :: A)
  | fk {a : Addr} {o : Obj} {vs : List (Key × V)} {ds : List (Key × PyData)} : H a = some (.frz o (.dK vs)) → F a = none → Prs K F vs ds → TrOk K F H (.ref a) (.fk ds) [a]
  | ft {a : Addr} {o : Obj} {vs : List (List Key × V)} {ds : List (List Key × PyData)} : H a = some (.frz o (.dT vs)) → F a = none → Prs K F vs ds → TrOk K F H (.ref a) (.ft ds) [a]
  | raw {v : V} : TrOk K F H v (.raw v) []
  | sd {a : Addr} {o : Obj} {vs : List (Key × V)} {ds : List (Key × PyData)} : F a = some (.frz o (.dK vs)) → Prs K F vs ds → TrOk K F H (.ref a) (.sd ds) []
  | hole {v : V} : TrOk K F H v .hole []
inductive TrsOk (K : Fg) (F H : Hp) : List V → List Tr → List Addr → Prop
  | nil : TrsOk K F H [] [] []
  | cons {v : V} {vs : List V} {t : Tr} {ts : List Tr} {A B : List Addr} : TrOk K F H v t A → TrsOk K F H vs ts B → TrsOk K F H (v :: vs) (t :: ts) (A ++ B)
end
section
variable {K : Fg} {F H F' H' : Hp}
mutual
theorem TrOk.mem : ∀ {v : V} {t : Tr} {A : List Addr}, TrOk K F H v t A → ∀ b ∈ A, H b ≠ none ∧ F b = none
  | _, _, _, .dat _, _, h => nomatch h
  | _, _, _, .tup e f r, b, h => by
    rcases List.mem_cons.mp h with rfl | h
    · exact ⟨(by rw [e]; exact fun z => nomatch z), f.1⟩
    · exact TrsOk.mem r b h
  | _, _, _, .lst e f r, b, h => by
    rcases List.mem_cons.mp h with rfl | h
    · exact ⟨(by rw [e]; exact fun z => nomatch z), f⟩
    · exact TrsOk.mem r b h
  | _, _, _, .dk e f _ r, b, h => by
    rcases List.mem_cons.mp h with rfl | h
    · exact ⟨(by rw [e]; exact fun z => nomatch z), f⟩
    · exact TrsOk.mem r b h
  | _, _, _, .dt e f _ r, b, h => by
    rcases List.mem_cons.mp h with rfl | h
    · exact ⟨(by rw [e]; exact fun z => nomatch z), f⟩
    · exact TrsOk.mem r b h
  | _, _, _, .ins e f _ _ r, b, h => by
    rcases List.mem_cons.mp h with rfl | h
    · exact ⟨(by rw [e]; exact fun z => nomatch z), f⟩
    · exact TrsOk.mem r b h
  | _, _, _, .fk e f _, b, h => by
    rw [List.mem_singleton.mp h]
    exact ⟨(by rw [e]; exact fun z => nomatch z), f⟩
  | _, _, _, .ft e f _, b, h => by
    rw [List.mem_singleton.mp h]
    exact ⟨(by rw [e]; exact fun z => nomatch z), f⟩
  | _, _, _, .raw, _, h => nomatch h
  | _, _, _, .sd _ _, _, h => nomatch h
  | _, _, _, .hole, _, h => nomatch h
theorem TrsOk.mem : ∀ {vs : List V} {ts : List Tr} {A : List Addr}, TrsOk K F H vs ts A → ∀ b ∈ A, H b ≠ none ∧ F b = none
  | _, _, _, .nil, _, h => nomatch h
  | _, _, _, .cons q r, b, h => by
    rcases List.mem_append.mp h with h | h
    · exact TrOk.mem q b h
    · exact TrsOk.mem r b h
end
mutual
theorem TrOk.ntb : ∀ {v : V} {t : Tr} {A : List Addr}, TrOk K F H v t A → ∀ b ∈ A, ∀ ps, H b ≠ some (.tbl ps)
  | _, _, _, .dat _, _, h => nomatch h
  | _, _, _, .tup e f r, b, h => by
    rcases List.mem_cons.mp h with rfl | h
    · intro ps z; rw [e] at z; cases z
    · exact TrsOk.ntb r b h
  | _, _, _, .lst e f r, b, h => by
    rcases List.mem_cons.mp h with rfl | h
    · intro ps z; rw [e] at z; cases z
    · exact TrsOk.ntb r b h
  | _, _, _, .dk e f _ r, b, h => by
    rcases List.mem_cons.mp h with rfl | h
    · intro ps z; rw [e] at z; cases z
    · exact TrsOk.ntb r b h
  | _, _, _, .dt e f _ r, b, h => by
    rcases List.mem_cons.mp h with rfl | h
    · intro ps z; rw [e] at z; cases z
    · exact TrsOk.ntb r b h
  | _, _, _, .ins e f _ _ r, b, h => by
    rcases List.mem_cons.mp h with rfl | h
    · intro ps z; rw [e] at z; cases z
    · exact TrsOk.ntb r b h
  | _, _, _, .fk e f _, b, h => by
    rw [List.mem_singleton.mp h]
    intro ps z; rw [e] at z; cases z
  | _, _, _, .ft e f _, b, h => by
    rw [List.mem_singleton.mp h]
    intro ps z; rw [e] at z; cases z
  | _, _, _, .raw, _, h => nomatch h
  | _, _, _, .sd _ _, _, h => nomatch h
  | _, _, _, .hole, _, h => nomatch h
theorem TrsOk.ntb : ∀ {vs : List V} {ts : List Tr} {A : List Addr}, TrsOk K F H vs ts A → ∀ b ∈ A, ∀ ps, H b ≠ some (.tbl ps)
  | _, _, _, .nil, _, h => nomatch h
  | _, _, _, .cons q r, b, h => by
    rcases List.mem_append.mp h with h | h
    · exact TrOk.ntb q b h
    · exact TrsOk.ntb r b h
end
mutual
theorem TrOk.nkt : ∀ {v : V} {t : Tr} {A : List Addr}, TrOk K F H v t A → ∀ b ∈ A, ¬ KT H b
  | _, _, _, .dat _, _, h => nomatch h
  | _, _, _, .tup e f r, b, h => by
    rcases List.mem_cons.mp h with rfl | h
    · rintro (⟨ks, z⟩ | ⟨ps, z⟩)
      · rw [e] at z; exact f.2 ks (by injection z with z; injection z)
      · rw [e] at z; cases z
    · exact TrsOk.nkt r b h
  | _, _, _, .lst e f r, b, h => by
    rcases List.mem_cons.mp h with rfl | h
    · rintro (⟨ks, z⟩ | ⟨ps, z⟩) <;> rw [e] at z <;> cases z
    · exact TrsOk.nkt r b h
  | _, _, _, .dk e f _ r, b, h => by
    rcases List.mem_cons.mp h with rfl | h
    · rintro (⟨ks, z⟩ | ⟨ps, z⟩) <;> rw [e] at z <;> cases z
    · exact TrsOk.nkt r b h
  | _, _, _, .dt e f _ r, b, h => by
    rcases List.mem_cons.mp h with rfl | h
    · rintro (⟨ks, z⟩ | ⟨ps, z⟩) <;> rw [e] at z <;> cases z
    · exact TrsOk.nkt r b h
  | _, _, _, .ins e f _ _ r, b, h => by
    rcases List.mem_cons.mp h with rfl | h
    · rintro (⟨ks, z⟩ | ⟨ps, z⟩) <;> rw [e] at z <;> cases z
    · exact TrsOk.nkt r b h
  | _, _, _, .fk e f _, b, h => by
    rw [List.mem_singleton.mp h]
    rintro (⟨ks, z⟩ | ⟨ps, z⟩) <;> rw [e] at z <;> cases z
  | _, _, _, .ft e f _, b, h => by
    rw [List.mem_singleton.mp h]
    rintro (⟨ks, z⟩ | ⟨ps, z⟩) <;> rw [e] at z <;> cases z
  | _, _, _, .raw, _, h => nomatch h
  | _, _, _, .sd _ _, _, h => nomatch h
  | _, _, _, .hole, _, h => nomatch h
theorem TrsOk.nkt : ∀ {vs : List V} {ts : List Tr} {A : List Addr}, TrsOk K F H vs ts A → ∀ b ∈ A, ¬ KT H b
  | _, _, _, .nil, _, h => nomatch h
  | _, _, _, .cons q r, b, h => by
    rcases List.mem_append.mp h with h | h
    · exact TrOk.nkt q b h
    · exact TrsOk.nkt r b h
end
mutual
theorem TrOk.move (s : Same F F') : ∀ {v : V} {t : Tr} {A : List Addr}, TrOk K F H v t A → (∀ b ∈ A, H' b = H b ∧ F' b = none) → TrOk K F' H' v t A
  | _, _, _, .dat d, _ => .dat (dq_mono s _ _ d)
  | _, _, _, .tup e f r, h => .tup ((h _ List.mem_cons_self).1.trans e) ⟨(h _ List.mem_cons_self).2, f.2⟩ (TrsOk.move s r fun b z => h b (List.mem_cons_of_mem _ z))
  | _, _, _, .lst e f r, h => .lst ((h _ List.mem_cons_self).1.trans e) (h _ List.mem_cons_self).2 (TrsOk.move s r fun b z => h b (List.mem_cons_of_mem _ z))
  | _, _, _, .dk e f k r, h => .dk ((h _ List.mem_cons_self).1.trans e) (h _ List.mem_cons_self).2 k (TrsOk.move s r fun b z => h b (List.mem_cons_of_mem _ z))
  | _, _, _, .dt e f k r, h => .dt ((h _ List.mem_cons_self).1.trans e) (h _ List.mem_cons_self).2 k (TrsOk.move s r fun b z => h b (List.mem_cons_of_mem _ z))
  | _, _, _, .ins e f kc k r, h => .ins ((h _ List.mem_cons_self).1.trans e) (h _ List.mem_cons_self).2 kc k (TrsOk.move s r fun b z => h b (List.mem_cons_of_mem _ z))
  | _, _, _, .fk e f r, h => .fk ((h _ List.mem_cons_self).1.trans e) (h _ List.mem_cons_self).2 (r.mono s)
  | _, _, _, .ft e f r, h => .ft ((h _ List.mem_cons_self).1.trans e) (h _ List.mem_cons_self).2 (r.mono s)
  | _, _, _, .raw, _ => .raw
  | _, _, _, .sd e r, _ => .sd (s _ _ e) (r.mono s)
  | _, _, _, .hole, _ => .hole
theorem TrsOk.move (s : Same F F') : ∀ {vs : List V} {ts : List Tr} {A : List Addr}, TrsOk K F H vs ts A → (∀ b ∈ A, H' b = H b ∧ F' b = none) → TrsOk K F' H' vs ts A
  | _, _, _, .nil, _ => .nil
  | _, _, _, .cons q r, h => .cons (TrOk.move s q fun b z => h b (List.mem_append_left _ z)) (TrsOk.move s r fun b z => h b (List.mem_append_right _ z))
end
mutual
/-- as data -/
noncomputable def Tr.toD : Tr → Option PyData
  | .dat d => some d
  | .tup ts => (Tr.toDs ts).map .tuple
  | .lst ts => (Tr.toDs ts).map .list
  | .dk _ => none
  | .dt _ => none
  | .ins _ _ => none
  | .fk _ => none
  | .ft _ => none
  | .raw _ => none
  | .sd _ => none
  | .hole => none
noncomputable def Tr.toDs : List Tr → Option (List PyData)
  | [] => some []
  | t :: ts => match Tr.toD t, Tr.toDs ts with
    | some d, some ds => some (d :: ds)
    | _, _ => none
end
noncomputable def frz (F H : Hp) (A : List Addr) : Hp := fun b => if b ∈ A then H b else F b
theorem frz_same {A : List Addr} (hA : ∀ b ∈ A, F b = none) : Same F (frz F H A) := fun b o e => by
  unfold frz
  rw [if_neg fun z => by rw [hA b z] at e; cases e]
  exact e
theorem frz_sub {A : List Addr} (s : Same F H) : Same (frz F H A) H := fun b o e => by
  unfold frz at e
  split at e
  · exact e
  · exact s b o e
mutual
/-- over G: what is frozen (of G, at least) reads as data -/
theorem TrOk.dp {G : Hp} (s : Same F G) : ∀ {v : V} {t : Tr} {A : List Addr} {d : PyData}, TrOk K F H v t A → (∀ b ∈ A, G b = H b) → t.toD = some d → Dq K G v d
  | _, _, _, _, .dat q, _, e => by
    simp only [Tr.toD] at e; cases e
    exact dq_mono s _ _ q
  | _, .tup ts, _, d, .tup q _ r, h, e => by
    simp only [Tr.toD] at e
    cases z : Tr.toDs ts with
    | none => rw [z] at e; cases e
    | some ds =>
      rw [z] at e; cases e
      exact .tup ((h _ List.mem_cons_self).trans q) (TrsOk.dp s r (fun b z => h b (List.mem_cons_of_mem _ z)) z)
  | _, .lst ts, _, d, .lst q _ r, h, e => by
    simp only [Tr.toD] at e
    cases z : Tr.toDs ts with
    | none => rw [z] at e; cases e
    | some ds =>
      rw [z] at e; cases e
      exact .lst (.inl ((h _ List.mem_cons_self).trans q)) (TrsOk.dp s r (fun b z => h b (List.mem_cons_of_mem _ z)) z)
  | _, _, _, _, .dk .., _, e => by simp [Tr.toD] at e
  | _, _, _, _, .dt .., _, e => by simp [Tr.toD] at e
  | _, _, _, _, .ins .., _, e => by simp [Tr.toD] at e
  | _, _, _, _, .fk .., _, e => by simp [Tr.toD] at e
  | _, _, _, _, .ft .., _, e => by simp [Tr.toD] at e
  | _, _, _, _, .raw, _, e => by simp [Tr.toD] at e
  | _, _, _, _, .sd _ _, _, e => by simp [Tr.toD] at e
  | _, _, _, _, .hole, _, e => by simp [Tr.toD] at e
theorem TrsOk.dp {G : Hp} (s : Same F G) : ∀ {vs : List V} {ts : List Tr} {A : List Addr} {ds : List PyData}, TrsOk K F H vs ts A → (∀ b ∈ A, G b = H b) → Tr.toDs ts = some ds → DqAll K G vs ds
  | _, _, _, _, .nil, _, e => by
    simp only [Tr.toDs] at e; cases e
    exact .nil
  | _, t :: ts, _, _, .cons q r, h, e => by
    simp only [Tr.toDs] at e
    cases z : t.toD with
    | none => rw [z] at e; cases e
    | some d =>
      cases y : Tr.toDs ts with
      | none => rw [z, y] at e; cases e
      | some ds' =>
        rw [z, y] at e; cases e
        exact .cons (TrOk.dp s q (fun b z => h b (List.mem_append_left _ z)) z) (TrsOk.dp s r (fun b z => h b (List.mem_append_right _ z)) y)
end
end
theorem TrsOk.len {K : Fg} {F H : Hp} : ∀ {vs : List V} {ts : List Tr} {A : List Addr}, TrsOk K F H vs ts A → vs.length = ts.length
  | _, _, _, .nil => rfl
  | _, _, _, .cons _ t => by simp [TrsOk.len t]
theorem trs_dat {K : Fg} {F H : Hp} : ∀ {vs : List V} {ds : List PyData}, DqAll K F vs ds → TrsOk K F H vs (ds.map .dat) []
  | _, _, .nil => .nil
  | _, _, .cons h t => by
    have := TrsOk.cons (TrOk.dat (H := H) h) (trs_dat (H := H) t)
    simpa using this
theorem trs_dat' {K : Fg} {F H : Hp} : ∀ {vs : List V} {ds : List PyData} {A : List Addr}, TrsOk K F H vs (ds.map .dat) A → A = [] ∧ DqAll K F vs ds
  | _, [], _, .nil => ⟨rfl, .nil⟩
  | _, d :: ds, _, .cons q r => by
    cases q with
    | dat q =>
      obtain ⟨e, z⟩ := trs_dat' (ds := ds) r
      subst e
      exact ⟨rfl, .cons q z⟩
theorem toDs_dat : ∀ ds : List PyData, Tr.toDs (ds.map .dat) = some ds
  | [] => by simp [Tr.toDs]
  | d :: ds => by simp [Tr.toDs, Tr.toD, toDs_dat ds]

noncomputable def kids : Tr → List Tr
  | .dat _ => []
  | .tup ts => ts
  | .lst ts => ts
  | .dk kvs => kvs.map (·.2)
  | .dt kvs => kvs.map (·.2)
  | .ins _ fs => fs.map (·.2)
  | .fk _ => []
  | .ft _ => []
  | .raw _ => []
  | .sd _ => []
  | .hole => []
noncomputable def setSnd {κ : Type} : List (κ × Tr) → Nat → Tr → List (κ × Tr)
  | [], _, _ => []
  | (k, _) :: r, 0, t => (k, t) :: r
  | p :: r, j + 1, t => p :: setSnd r j t
noncomputable def setKid : Tr → Nat → Tr → Tr
  | .dat d, _, _ => .dat d
  | .tup ts, j, t => .tup (ts.set j t)
  | .lst ts, j, t => .lst (ts.set j t)
  | .dk kvs, j, t => .dk (setSnd kvs j t)
  | .dt kvs, j, t => .dt (setSnd kvs j t)
  | .ins C fs, j, t => .ins C (setSnd fs j t)
  | .fk d, _, _ => .fk d
  | .ft d, _, _ => .ft d
  | .raw d, _, _ => .raw d
  | .sd d, _, _ => .sd d
  | .hole, _, _ => .hole
noncomputable def Tr.at : Tr → List Nat → Option Tr
  | t, [] => some t
  | t, j :: p => match (kids t)[j]? with
    | some k => k.at p
    | none => none
noncomputable def Tr.put : Tr → List Nat → Tr → Tr
  | _, [], t' => t'
  | t, j :: p, t' => match (kids t)[j]? with
    | some k => setKid t j (k.put p t')
    | none => t
noncomputable def kidsV (H : Hp) : V → List V
  | .ref a => match H a with
    | some (.tup vs) => vs
    | some (.lst vs) => vs
    | some (.dK kvs) => kvs.map (·.2)
    | some (.dT kvs) => kvs.map (·.2)
    | some (.ins _ _ fs) => fs.map (·.2)
    | _ => []
  | _ => []
noncomputable def pathV (H : Hp) : V → List Nat → Option V
  | v, [] => some v
  | v, j :: p => match (kidsV H v)[j]? with
    | some w => pathV H w p
    | none => none
theorem setSnd_fst {κ : Type} : ∀ (l : List (κ × Tr)) (j : Nat) (t : Tr), (setSnd l j t).map (·.1) = l.map (·.1)
  | [], _, _ => rfl
  | (k, _) :: r, 0, t => rfl
  | p :: r, j + 1, t => by simp [setSnd, setSnd_fst r j t]
theorem setSnd_snd {κ : Type} : ∀ (l : List (κ × Tr)) (j : Nat) (t : Tr), (setSnd l j t).map (·.2) = (l.map (·.2)).set j t
  | [], _, _ => rfl
  | (k, _) :: r, 0, t => rfl
  | p :: r, j + 1, t => by simp [setSnd, setSnd_snd r j t]
section
variable {K : Fg} {F H : Hp}
theorem trs_focus : ∀ {vs : List V} {ts : List Tr} {A : List Addr} {j : Nat} {t : Tr}, TrsOk K F H vs ts A → ts[j]? = some t →
    ∃ v pre B post, vs[j]? = some v ∧ A = pre ++ (B ++ post) ∧ TrOk K F H v t B ∧ ∀ F' H' t' B', Same F F' → (∀ b, b ∈ pre ∨ b ∈ post → H' b = H b ∧ F' b = none) → TrOk K F' H' v t' B' → TrsOk K F' H' vs (ts.set j t') (pre ++ (B' ++ post))
  | _, _, _, j, t, .nil, h => by simp at h
  | _, _, _, 0, t, @TrsOk.cons _ _ _ v vs t0 ts A B q r, h => by
    simp at h
    subst h
    exact ⟨v, [], A, B, rfl, rfl, q, fun F' H' t' B' s hb q' => by
      have z := TrsOk.cons q' (r.move s fun b z => hb b (.inr z))
      exact z⟩
  | _, _, _, j + 1, t, @TrsOk.cons _ _ _ v0 vs t0 ts A B q r, h => by
    obtain ⟨v, pre, B1, post, h1, h2, h3, h4⟩ := trs_focus (j := j) r (by simpa using h)
    refine ⟨v, A ++ pre, B1, post, by simpa using h1, by rw [h2]; simp, h3, fun F' H' t' B' s hb q' => ?_⟩
    have z := TrsOk.cons (q.move s fun b z => hb b (.inl (List.mem_append_left _ z))) (h4 F' H' t' B' s (fun b z => hb b (z.imp_left (List.mem_append_right _))) q')
    rw [List.append_assoc]
    exact z
theorem trs_repl : ∀ {vs : List V} {ts : List Tr} {A : List Addr} {j : Nat} {t : Tr}, TrsOk K F H vs ts A → ts[j]? = some t →
    ∃ v pre B post, vs[j]? = some v ∧ A = pre ++ (B ++ post) ∧ TrOk K F H v t B ∧ ∀ F' H' v' t' B', Same F F' → (∀ b, b ∈ pre ∨ b ∈ post → H' b = H b ∧ F' b = none) → TrOk K F' H' v' t' B' → TrsOk K F' H' (vs.set j v') (ts.set j t') (pre ++ (B' ++ post))
  | _, _, _, j, t, .nil, h => by simp at h
  | _, _, _, 0, t, @TrsOk.cons _ _ _ v vs t0 ts A B q r, h => by
    simp at h
    subst h
    exact ⟨v, [], A, B, rfl, rfl, q, fun F' H' v' t' B' s hb q' => by
      have z := TrsOk.cons q' (r.move s fun b z => hb b (.inr z))
      exact z⟩
  | _, _, _, j + 1, t, @TrsOk.cons _ _ _ v0 vs t0 ts A B q r, h => by
    obtain ⟨v, pre, B1, post, h1, h2, h3, h4⟩ := trs_repl (j := j) r (by simpa using h)
    refine ⟨v, A ++ pre, B1, post, by simpa using h1, by rw [h2]; simp, h3, fun F' H' v' t' B' s hb q' => ?_⟩
    have z := TrsOk.cons (q.move s fun b z => hb b (.inl (List.mem_append_left _ z))) (h4 F' H' v' t' B' s (fun b z => hb b (z.imp_left (List.mem_append_right _))) q')
    rw [List.append_assoc]
    exact z
theorem focus : ∀ {p : List Nat} {v : V} {t t' : Tr} {A : List Addr}, TrOk K F H v t A → t.at p = some t' →
    ∃ v' pre B post, pathV H v p = some v' ∧ A = pre ++ (B ++ post) ∧ TrOk K F H v' t' B ∧ ∀ F' H' t'' B', Same F F' → (∀ b, b ∈ pre ∨ b ∈ post → H' b = H b ∧ F' b = none) → TrOk K F' H' v' t'' B' → TrOk K F' H' v (t.put p t'') (pre ++ (B' ++ post)) ∧ pathV H' v p = some v'
  | [], v, t, t', A, q, h => by
    simp only [Tr.at] at h
    cases h
    exact ⟨v, [], A, [], rfl, by simp, q, fun F' H' t'' B' s hb q' => ⟨by simpa [Tr.put] using q', rfl⟩⟩
  | j :: p, v, t, t', A, q, h => by
    simp only [Tr.at] at h
    split at h
    · rename_i k hk
      cases q with
      | dat q => simp [kids] at hk
      | fk _ _ _ => simp [kids] at hk
      | ft _ _ _ => simp [kids] at hk
      | raw => simp [kids] at hk
      | sd _ _ => simp [kids] at hk
      | hole => simp [kids] at hk
      | @tup a vs ts A e f r =>
        obtain ⟨v1, pre, B, post, h1, h2, h3, h4⟩ := trs_focus r hk
        obtain ⟨v', pre', B', post', g1, g2, g3, g4⟩ := focus h3 h
        refine ⟨v', a :: (pre ++ pre'), B', post' ++ post, by simp [pathV, kidsV, e, h1, g1], by rw [h2, g2]; simp, g3, fun F' H' t'' B'' s hb q' => ?_⟩
        have ha := hb a (.inl List.mem_cons_self)
        obtain ⟨z, zp⟩ := g4 F' H' t'' B'' s (fun b z => hb b (z.imp (fun w => List.mem_cons_of_mem _ (List.mem_append_right _ w)) (List.mem_append_left _))) q'
        have y := h4 F' H' _ _ s (fun b z => hb b (z.imp (fun w => List.mem_cons_of_mem _ (List.mem_append_left _ w)) (List.mem_append_right _))) z
        refine ⟨?_, by simp [pathV, kidsV, ha.1, e, h1, zp]⟩
        simp only [Tr.put, hk, setKid]
        have x := TrOk.tup (ha.1.trans e) ⟨ha.2, f.2⟩ y
        simpa [List.append_assoc] using x
      | @lst a vs ts A e f r =>
        obtain ⟨v1, pre, B, post, h1, h2, h3, h4⟩ := trs_focus r hk
        obtain ⟨v', pre', B', post', g1, g2, g3, g4⟩ := focus h3 h
        refine ⟨v', a :: (pre ++ pre'), B', post' ++ post, by simp [pathV, kidsV, e, h1, g1], by rw [h2, g2]; simp, g3, fun F' H' t'' B'' s hb q' => ?_⟩
        have ha := hb a (.inl List.mem_cons_self)
        obtain ⟨z, zp⟩ := g4 F' H' t'' B'' s (fun b z => hb b (z.imp (fun w => List.mem_cons_of_mem _ (List.mem_append_right _ w)) (List.mem_append_left _))) q'
        have y := h4 F' H' _ _ s (fun b z => hb b (z.imp (fun w => List.mem_cons_of_mem _ (List.mem_append_left _ w)) (List.mem_append_right _))) z
        refine ⟨?_, by simp [pathV, kidsV, ha.1, e, h1, zp]⟩
        simp only [Tr.put, hk, setKid]
        have x := TrOk.lst (ha.1.trans e) ha.2 y
        simpa [List.append_assoc] using x
      | @dk a vs ts A e f kk r =>
        obtain ⟨v1, pre, B, post, h1, h2, h3, h4⟩ := trs_focus r hk
        obtain ⟨v', pre', B', post', g1, g2, g3, g4⟩ := focus h3 h
        refine ⟨v', a :: (pre ++ pre'), B', post' ++ post, by simp only [pathV, kidsV, e, h1]; exact g1, by rw [h2, g2]; simp, g3, fun F' H' t'' B'' s hb q' => ?_⟩
        have ha := hb a (.inl List.mem_cons_self)
        obtain ⟨z, zp⟩ := g4 F' H' t'' B'' s (fun b z => hb b (z.imp (fun w => List.mem_cons_of_mem _ (List.mem_append_right _ w)) (List.mem_append_left _))) q'
        have y := h4 F' H' _ _ s (fun b z => hb b (z.imp (fun w => List.mem_cons_of_mem _ (List.mem_append_left _ w)) (List.mem_append_right _))) z
        refine ⟨?_, by simp only [pathV, kidsV, ha.1, e, h1]; exact zp⟩
        simp only [Tr.put, hk, setKid]
        rw [← setSnd_snd] at y
        have x := TrOk.dk (ha.1.trans e) ha.2 (by rw [setSnd_fst]; exact kk) y
        simpa [List.append_assoc] using x
      | @dt a vs ts A e f kk r =>
        obtain ⟨v1, pre, B, post, h1, h2, h3, h4⟩ := trs_focus r hk
        obtain ⟨v', pre', B', post', g1, g2, g3, g4⟩ := focus h3 h
        refine ⟨v', a :: (pre ++ pre'), B', post' ++ post, by simp only [pathV, kidsV, e, h1]; exact g1, by rw [h2, g2]; simp, g3, fun F' H' t'' B'' s hb q' => ?_⟩
        have ha := hb a (.inl List.mem_cons_self)
        obtain ⟨z, zp⟩ := g4 F' H' t'' B'' s (fun b z => hb b (z.imp (fun w => List.mem_cons_of_mem _ (List.mem_append_right _ w)) (List.mem_append_left _))) q'
        have y := h4 F' H' _ _ s (fun b z => hb b (z.imp (fun w => List.mem_cons_of_mem _ (List.mem_append_left _ w)) (List.mem_append_right _))) z
        refine ⟨?_, by simp only [pathV, kidsV, ha.1, e, h1]; exact zp⟩
        simp only [Tr.put, hk, setKid]
        rw [← setSnd_snd] at y
        have x := TrOk.dt (ha.1.trans e) ha.2 (by rw [setSnd_fst]; exact kk) y
        simpa [List.append_assoc] using x
      | @ins a C dx c vs ts A e f kc kk r =>
        obtain ⟨v1, pre, B, post, h1, h2, h3, h4⟩ := trs_focus r hk
        obtain ⟨v', pre', B', post', g1, g2, g3, g4⟩ := focus h3 h
        refine ⟨v', a :: (pre ++ pre'), B', post' ++ post, by simp only [pathV, kidsV, e, h1]; exact g1, by rw [h2, g2]; simp, g3, fun F' H' t'' B'' s hb q' => ?_⟩
        have ha := hb a (.inl List.mem_cons_self)
        obtain ⟨z, zp⟩ := g4 F' H' t'' B'' s (fun b z => hb b (z.imp (fun w => List.mem_cons_of_mem _ (List.mem_append_right _ w)) (List.mem_append_left _))) q'
        have y := h4 F' H' _ _ s (fun b z => hb b (z.imp (fun w => List.mem_cons_of_mem _ (List.mem_append_left _ w)) (List.mem_append_right _))) z
        refine ⟨?_, by simp only [pathV, kidsV, ha.1, e, h1]; exact zp⟩
        simp only [Tr.put, hk, setKid]
        rw [← setSnd_snd] at y
        have x := TrOk.ins (ha.1.trans e) ha.2 kc (by rw [setSnd_fst]; exact kk) y
        simpa [List.append_assoc] using x
    · cases h
theorem path_stays {H' : Hp} {v : V} {t t' : Tr} {A : List Addr} {p : List Nat} {w : V} (q : TrOk K F H v t A) (h : t.at p = some t') (e : pathV H v p = some w) (hb : ∀ b ∈ A, H' b = H b) : pathV H' v p = some w := by
  obtain ⟨v', pre, B, post, g1, g2, g3, g4⟩ := focus q h
  rw [g1] at e; cases e
  have hF : ∀ b ∈ A, F b = none := fun b z => (q.mem b z).2
  refine (g4 F H' t' B (Same.refl _) (fun b z => ?_) (g3.move (Same.refl _) fun b z => ?_)).2
  · have : b ∈ A := by rw [g2]; rcases z with z | z; exact List.mem_append_left _ z; exact List.mem_append_right _ (List.mem_append_right _ z)
    exact ⟨hb b this, hF b this⟩
  · have : b ∈ A := by rw [g2]; exact List.mem_append_right _ (List.mem_append_left _ z)
    exact ⟨hb b this, hF b this⟩
end

noncomputable def SlOk (K : Fg) (F H : Hp) (v : Option V) (A : List Addr) : Sl → Prop
  | .no => True
  | .val d => ∃ u, v = some u ∧ Dq K F u d
  | .own _ t => ∃ u, v = some u ∧ TrOk K F H u t A
  | .al _ _ => True
noncomputable def AlOk (H : Hp) (σ : Sg) (ρ : Rho) : Prop := ∀ (j i : Nat) p t, ρ[j]? = some (.al i p) → ρ[i]? = some (.own (.bor p) t) → ∃ t' u v, t.at p = some t' ∧ sg σ i = some u ∧ sg σ j = some v ∧ pathV H u p = some v
noncomputable def TbOk (K : Fg) (F H : Hp) : Prop := ∀ c P, PySem.W.tabIn K "price_meant" = some (c, P) → F P = none ∧ ∃ ps : Array Value, H P = some (.tbl ps) ∧ TriplesOk ps.toList ∧ ∀ (pos : Pos) (cv : Value), codeAmong pos ps.toList = some cv → ∃ c', cv = .ref c' ∧ F c' = some (LamX.CodeO c' "price_meant.<locals>.<lambda>")
theorem TbOk.mono {K : Fg} {F H F' H' : Hp} (t : TbOk K F H) (s : Same F F') (h : ∀ P ps, H P = some (.tbl ps) → F P = none → F' P = none ∧ H' P = H P) : TbOk K F' H' := fun c P e => by
  obtain ⟨h1, ps, h2, h3, h4⟩ := t c P e
  obtain ⟨g1, g2⟩ := h P ps h2 h1
  refine ⟨g1, ps, g2.trans h2, h3, fun pos cv z => ?_⟩
  obtain ⟨c', e1, e2⟩ := h4 pos cv z
  exact ⟨c', e1, s _ _ e2⟩
theorem TbOk.same {K : Fg} {F H F' H' : Hp} (t : TbOk K F H) (s : Same F F') (hs : Same H H') (h : ∀ b, F b = none → F' b ≠ none → H b = none) : TbOk K F' H' := t.mono s fun P ps h1 h2 => by
  refine ⟨?_, (hs _ _ h1).trans h1.symm⟩
  cases q : F' P with
  | none => rfl
  | some o =>
    have z := h P h2 (by rw [q]; exact fun z => nomatch z)
    rw [h1] at z
    cases z
theorem TbOk.frz {K : Fg} {F H : Hp} {A : List Addr} (t : TbOk K F H) (hA : ∀ b ∈ A, F b = none) (hn : ∀ b ∈ A, ∀ ps, H b ≠ some (.tbl ps)) : TbOk K (VL.frz F H A) H := t.mono (frz_same hA) fun P ps h1 h2 => by
  refine ⟨?_, rfl⟩
  unfold VL.frz
  rw [if_neg fun z => hn P z ps h1]
  exact h2
theorem TbOk.upd {K : Fg} {F H : Hp} {a : Addr} {o : HO} (t : TbOk K F H) (hn : ∀ ps, H a ≠ some (.tbl ps)) : TbOk K F (L2.upd H a o) := t.mono (Same.refl _) fun P ps h1 h2 => ⟨h2, upd_ne fun z => hn ps (by rw [← z]; exact h1)⟩
structure EnvOk (K : Fg) (F H : Hp) (σ : Sg) (ρ : Rho) (fp : FP) : Prop where
  sub : Same F H
  len : σ.length = ρ.length
  sl : ∀ (i : Nat) s, ρ[i]? = some s → SlOk K F H (sg σ i) (fp i) s
  nil : ∀ (i : Nat), (∀ m t, ρ[i]? ≠ some (Sl.own m t)) → fp i = []
  nd : ∀ i, (fp i).Nodup
  ap : ∀ i j b, b ∈ fp i → b ∈ fp j → i = j
  tb : TbOk K F H
  al : AlOk H σ ρ
theorem EnvOk.al' {K : Fg} {F H H' : Hp} {σ σ' : Sg} {ρ ρ' : Rho} {fp : FP} (E : EnvOk K F H σ ρ fp) (hj : ∀ (j i : Nat) p, ρ'[j]? = some (.al i p) → ρ[j]? = some (.al i p) ∧ sg σ' j = sg σ j)
    (ho : ∀ (i : Nat) p t, ρ'[i]? = some (.own (.bor p) t) → ρ[i]? = some (.own (.bor p) t) ∧ sg σ' i = sg σ i ∧ ∀ b ∈ fp i, H' b = H b) : AlOk H' σ' ρ' := fun j i p t h1 h2 => by
  obtain ⟨a1, a2⟩ := hj j i p h1
  obtain ⟨b1, b2, b3⟩ := ho i p t h2
  obtain ⟨t', u, v, c1, c2, c3, c4⟩ := E.al j i p t a1 b1
  obtain ⟨u', e, q⟩ := E.sl i _ b1
  rw [c2] at e; cases e
  exact ⟨t', u, v, c1, b2.trans c2, a2.trans c3, path_stays q c1 c4 b3⟩
noncomputable def Owns (fp : FP) (b : Addr) : Prop := ∃ i, b ∈ fp i
theorem EnvOk.owned {K : Fg} {F H : Hp} {σ : Sg} {ρ : Rho} {fp : FP} (e : EnvOk K F H σ ρ fp) {i : Nat} {b : Addr} (h : b ∈ fp i) : ∃ m t u, ρ[i]? = some (Sl.own m t) ∧ sg σ i = some u ∧ TrOk K F H u t (fp i) := by
  cases q : ρ[i]? with
  | none => rw [e.nil i fun m t z => by rw [q] at z; cases z] at h; cases h
  | some s =>
    cases s with
    | no => rw [e.nil i fun m t z => by rw [q] at z; cases z] at h; cases h
    | val d => rw [e.nil i fun m t z => by rw [q] at z; cases z] at h; cases h
    | al k p => rw [e.nil i fun m t z => by rw [q] at z; cases z] at h; cases h
    | own m t =>
      obtain ⟨u, e1, e2⟩ := e.sl i _ q
      exact ⟨m, t, u, rfl, e1, e2⟩
theorem EnvOk.there {K : Fg} {F H : Hp} {σ : Sg} {ρ : Rho} {fp : FP} (e : EnvOk K F H σ ρ fp) {b : Addr} (h : Owns fp b) : H b ≠ none ∧ F b = none := by
  obtain ⟨i, h⟩ := h
  obtain ⟨m, t, u, _, _, z⟩ := e.owned h
  exact z.mem b h
theorem EnvOk.ntb {K : Fg} {F H : Hp} {σ : Sg} {ρ : Rho} {fp : FP} (e : EnvOk K F H σ ρ fp) {b : Addr} (h : Owns fp b) : ∀ ps, H b ≠ some (.tbl ps) := by
  obtain ⟨i, h⟩ := h
  obtain ⟨m, t, u, _, _, z⟩ := e.owned h
  exact z.ntb b h

theorem EnvOk.nkt {K : Fg} {F H : Hp} {σ : Sg} {ρ : Rho} {fp : FP} (e : EnvOk K F H σ ρ fp) {b : Addr} (h : Owns fp b) : ¬ KT H b := by
  obtain ⟨i, h⟩ := h
  obtain ⟨m, t, u, _, _, z⟩ := e.owned h
  exact z.nkt b h

structure Step (K : Fg) (F H : Hp) (σ : Sg) (ρ : Rho) (fp : FP) (F' H' : Hp) (σ' : Sg) (ρ' : Rho) (fp' : FP) : Prop where
  env : EnvOk K F' H' σ' ρ' fp'
  fr : Same F F'
  nf : ∀ b, F b = none → F' b ≠ none → H b = none ∨ (Owns fp b ∨ KT H b)
  dom : ∀ b, H' b = none → H b = none
  frame : ∀ b o, H b = some o → ¬ Owns fp b → (∀ ps, o ≠ .tbl ps) → H' b = some o
  own : ∀ b, Owns fp' b → Owns fp b ∨ H b = none
  pin : ∀ (i : Nat) m t, ρ[i]? = some (Sl.own m t) → m.pn = true → sg σ' i = sg σ i ∧ ∃ m' t', ρ'[i]? = some (Sl.own m' t') ∧ m'.pn = true
  lock : ∀ (i : Nat) t, ρ[i]? = some (Sl.own .lock t) → sg σ' i = sg σ i ∧ ρ'[i]? = some (Sl.own .lock t) ∧ fp' i = fp i ∧ ∀ b ∈ fp i, H' b = H b
theorem Step.refl {K : Fg} {F H : Hp} {σ : Sg} {ρ : Rho} {fp : FP} (e : EnvOk K F H σ ρ fp) : Step K F H σ ρ fp F H σ ρ fp :=
  ⟨e, Same.refl _, fun _ h h' => absurd h h', fun _ h => h, fun _ _ h _ _ => h, fun _ h => .inl h, fun _ m o h hm => ⟨rfl, m, o, h, hm⟩, fun _ _ h => ⟨rfl, h, rfl, fun _ _ => rfl⟩⟩
theorem Step.kt {K : Fg} {F H F1 H1 : Hp} {σ σ1 : Sg} {ρ ρ1 : Rho} {fp fp1 : FP} (a : Step K F H σ ρ fp F1 H1 σ1 ρ1 fp1) {c : Addr} (z : KT H1 c) : H c = none ∨ (Owns fp c ∨ KT H c) := by
  by_cases hn : H c = none
  · exact .inl hn
  · by_cases ho : Owns fp c
    · exact .inr (.inl ho)
    · obtain ⟨u, hu⟩ := Option.ne_none_iff_exists'.mp hn
      by_cases ht : ∃ ps, u = .tbl ps
      · obtain ⟨ps, rfl⟩ := ht
        exact .inr (.inr (.inr ⟨ps, hu⟩))
      · have := a.frame c u hu ho fun ps e => ht ⟨ps, e⟩
        unfold KT at z
        rw [this, ← hu] at z
        exact .inr (.inr z)
theorem Step.trans {K : Fg} {F H F1 H1 F2 H2 : Hp} {σ σ1 σ2 : Sg} {ρ ρ1 ρ2 : Rho} {fp fp1 fp2 : FP} (a : Step K F H σ ρ fp F1 H1 σ1 ρ1 fp1) (b : Step K F1 H1 σ1 ρ1 fp1 F2 H2 σ2 ρ2 fp2) : Step K F H σ ρ fp F2 H2 σ2 ρ2 fp2 where
  env := b.env
  fr := a.fr.trans b.fr
  nf := fun c h h' => by
    by_cases q : F1 c = none
    · rcases b.nf c q h' with z | z | z
      · exact .inl (a.dom c z)
      · exact (a.own c z).symm.imp_right .inl
      · exact a.kt z
    · exact a.nf c h q
  dom := fun c h => a.dom c (b.dom c h)
  frame := fun c o h n nt => b.frame c o (a.frame c o h n nt) (fun z => (a.own c z).elim n fun q => by rw [h] at q; cases q) nt
  own := fun c h => by
    rcases b.own c h with z | z
    · exact a.own c z
    · exact .inr (a.dom c z)
  pin := fun i m o h hm => by
    obtain ⟨e1, m1, o1, h1, k1⟩ := a.pin i m o h hm
    obtain ⟨e2, m2, o2, h2, k2⟩ := b.pin i m1 o1 h1 k1
    exact ⟨e2.trans e1, m2, o2, h2, k2⟩
  lock := fun i o h => by
    obtain ⟨e1, h1, f1, g1⟩ := a.lock i o h
    obtain ⟨e2, h2, f2, g2⟩ := b.lock i o h1
    exact ⟨e2.trans e1, h2, f2.trans f1, fun b hb => (g2 b (by rw [f1]; exact hb)).trans (g1 b hb)⟩

structure EStep (K : Fg) (T : List Nat) (F H : Hp) (σ : Sg) (ρ : Rho) (fp : FP) (F' H' : Hp) (ρ' : Rho) (fp' : FP) : Prop where
  st : Step K F H σ ρ fp F' H' σ ρ' fp'
  ko : ∀ (i : Nat) m t, ρ[i]? = some (Sl.own m t) → ∃ t', ρ'[i]? = some (Sl.own m t')
  un : ∀ (i : Nat), i ∉ T → ρ'[i]? = ρ[i]? ∧ fp' i = fp i ∧ ∀ b ∈ fp i, H' b = H b
theorem EStep.refl {K : Fg} {T : List Nat} {F H : Hp} {σ : Sg} {ρ : Rho} {fp : FP} (e : EnvOk K F H σ ρ fp) : EStep K T F H σ ρ fp F H ρ fp := ⟨.refl e, fun _ _ o h => ⟨o, h⟩, fun _ _ => ⟨rfl, rfl, fun _ _ => rfl⟩⟩
theorem EStep.trans {K : Fg} {T : List Nat} {F H F1 H1 F2 H2 : Hp} {σ : Sg} {ρ ρ1 ρ2 : Rho} {fp fp1 fp2 : FP} (a : EStep K T F H σ ρ fp F1 H1 ρ1 fp1) (b : EStep K T F1 H1 σ ρ1 fp1 F2 H2 ρ2 fp2) : EStep K T F H σ ρ fp F2 H2 ρ2 fp2 :=
  ⟨a.st.trans b.st, fun i m o h => let ⟨o1, h1⟩ := a.ko i m o h; b.ko i m o1 h1, fun i hi => by
    obtain ⟨a1, a2, a3⟩ := a.un i hi
    obtain ⟨b1, b2, b3⟩ := b.un i hi
    exact ⟨b1.trans a1, b2.trans a2, fun c hc => (b3 c (by rw [a2]; exact hc)).trans (a3 c hc)⟩⟩
theorem EStep.env {K : Fg} {T : List Nat} {F H F1 H1 : Hp} {σ : Sg} {ρ ρ1 : Rho} {fp fp1 : FP} (a : EStep K T F H σ ρ fp F1 H1 ρ1 fp1) : EnvOk K F1 H1 σ ρ1 fp1 := a.st.env
theorem EStep.sub {K : Fg} {T T' : List Nat} {F H F1 H1 : Hp} {σ : Sg} {ρ ρ1 : Rho} {fp fp1 : FP} (a : EStep K T F H σ ρ fp F1 H1 ρ1 fp1) (h : ∀ i ∈ T, i ∈ T') : EStep K T' F H σ ρ fp F1 H1 ρ1 fp1 :=
  ⟨a.st, a.ko, fun i hi => a.un i fun z => hi (h i z)⟩

structure Grow (F H F' H' : Hp) : Prop where
  h : Same H H'
  f : Same F F'
  s : Same F' H'
  n : ∀ b, F b = none → F' b ≠ none → H b = none
theorem Grow.refl {F H : Hp} (s : Same F H) : Grow F H F H := ⟨Same.refl _, Same.refl _, s, fun _ h h' => absurd h h'⟩
theorem same_upd {H : Hp} {p : Addr} {o : HO} (h : H p = none) : Same H (upd H p o) := fun b u e => by rw [upd_ne (ne_of_none e h)]; exact e
theorem same_upd2 {F H : Hp} {p : Addr} {o : HO} (s : Same F H) : Same (upd F p o) (upd H p o) := fun b u e => by
  by_cases hb : b = p
  · subst hb; rw [upd_same] at e ⊢; exact e
  · rw [upd_ne hb] at e ⊢; exact s b u e
theorem Grow.new {F H : Hp} {p : Addr} (o : HO) (s : Same F H) (h : H p = none) : Grow F H (upd F p o) (upd H p o) :=
  ⟨same_upd h, same_upd (s.free h), same_upd2 s, fun b e e' => by
    by_cases hb : b = p
    · subst hb; exact h
    · rw [upd_ne hb] at e'; exact absurd e e'⟩
theorem Grow.lay {F H : Hp} {p : Addr} (o : HO) (s : Same F H) (h : H p = none) : Grow F H F (upd H p o) :=
  ⟨same_upd h, Same.refl _, s.trans (same_upd h), fun b e e' => absurd e e'⟩
theorem Grow.trans {F H F1 H1 F2 H2 : Hp} (a : Grow F H F1 H1) (b : Grow F1 H1 F2 H2) : Grow F H F2 H2 :=
  ⟨a.h.trans b.h, a.f.trans b.f, b.s, fun c e e' => by
    by_cases q : F1 c = none
    · exact a.h.free (b.n c q e')
    · exact a.n c e q⟩
theorem Grow.step {K : Fg} {T : List Nat} {F H F' H' : Hp} {σ : Sg} {ρ : Rho} {fp : FP} (e : EnvOk K F H σ ρ fp) (g : Grow F H F' H') : EStep K T F H σ ρ fp F' H' ρ fp := by
  have nF : ∀ a, F a = none → H a ≠ none → F' a = none := fun a h h' => by
    cases q : F' a with
    | none => rfl
    | some o => exact absurd (g.n a h (by rw [q]; exact fun z => nomatch z)) h'
  have sH : ∀ a, H a ≠ none → H' a = H a := fun a h => by
    cases q : H a with
    | none => exact absurd q h
    | some u => exact g.h a u q
  refine ⟨⟨⟨g.s, e.len, fun i s h => ?_, e.nil, e.nd, e.ap, e.tb.same g.f g.h g.n, e.al' (fun _ _ _ h => ⟨h, rfl⟩) fun i _ _ h => ⟨h, rfl, fun b hb => sH b (e.there ⟨i, hb⟩).1⟩⟩, g.f, fun b h h' => .inl (g.n b h h'), fun b h => g.h.free h, fun b o h _ _ => g.h b o h, fun b h => .inl h, fun i m o h hm => ⟨rfl, m, o, h, hm⟩, fun i o h => ⟨rfl, h, rfl, fun b hb => sH b (e.there ⟨i, hb⟩).1⟩⟩, fun i m o h => ⟨o, h⟩, fun i _ => ⟨rfl, rfl, fun b hb => sH b (e.there ⟨i, hb⟩).1⟩⟩
  have q := e.sl i s h
  cases s with
  | no => trivial
  | al _ _ => trivial
  | val d => obtain ⟨u, e1, e2⟩ := q; exact ⟨u, e1, dq_mono g.f _ _ e2⟩
  | own m o =>
    obtain ⟨u, e1, e2⟩ := q
    exact ⟨u, e1, e2.move g.f fun b hb => ⟨sH b (e2.mem b hb).1, nF b (e2.mem b hb).2 (e2.mem b hb).1⟩⟩

structure Grow2 (K : Fg) (F H F' H' : Hp) : Prop where
  h : ∀ b o, H b = some o → (∀ ps, o ≠ .tbl ps) → H' b = some o
  d : ∀ b, H' b = none → H b = none
  f : Same F F'
  s : Same F' H'
  n : ∀ b, F b = none → F' b ≠ none → H b = none ∨ KT H b
  t : TbOk K F' H'
theorem Grow2.refl {K : Fg} {F H : Hp} (s : Same F H) (t : TbOk K F H) : Grow2 K F H F H := ⟨fun _ _ h _ => h, fun _ h => h, Same.refl _, s, fun _ h h' => absurd h h', t⟩
theorem Grow2.step {K : Fg} {T : List Nat} {F H F' H' : Hp} {σ : Sg} {ρ : Rho} {fp : FP} (e : EnvOk K F H σ ρ fp) (g : Grow2 K F H F' H') : EStep K T F H σ ρ fp F' H' ρ fp := by
  have nF : ∀ a, F a = none → H a ≠ none → ¬ KT H a → F' a = none := fun a h h' hk => by
    cases q : F' a with
    | none => rfl
    | some o => exact ((g.n a h (by rw [q]; exact fun z => nomatch z)).elim h' hk).elim
  have sH : ∀ a, Owns fp a → H' a = H a := fun a h => by
    cases q : H a with
    | none => exact absurd q (e.there h).1
    | some u => exact g.h a u q fun ps z => e.ntb h ps (z ▸ q)
  refine ⟨⟨⟨g.s, e.len, fun i s h => ?_, e.nil, e.nd, e.ap, g.t, e.al' (fun _ _ _ h => ⟨h, rfl⟩) fun i _ _ h => ⟨h, rfl, fun b hb => sH b ⟨i, hb⟩⟩⟩, g.f, fun b h h' => (g.n b h h').imp_right .inr, fun b h => g.d b h, fun b o h _ nt => g.h b o h nt, fun b h => .inl h, fun i m o h hm => ⟨rfl, m, o, h, hm⟩, fun i o h => ⟨rfl, h, rfl, fun b hb => sH b ⟨i, hb⟩⟩⟩, fun i m o h => ⟨o, h⟩, fun i _ => ⟨rfl, rfl, fun b hb => sH b ⟨i, hb⟩⟩⟩
  have q := e.sl i s h
  cases s with
  | no => trivial
  | al _ _ => trivial
  | val d => obtain ⟨u, e1, e2⟩ := q; exact ⟨u, e1, dq_mono g.f _ _ e2⟩
  | own m o =>
    obtain ⟨u, e1, e2⟩ := q
    exact ⟨u, e1, e2.move g.f fun b hb => ⟨sH b ⟨i, hb⟩, nF b (e2.mem b hb).2 (e2.mem b hb).1 (e2.nkt b hb)⟩⟩

inductive Rv where
  | d (x : PyData)
  | o (i : Nat)
noncomputable def RvOk (K : Fg) (F : Hp) (σ : Sg) (ρ : Rho) (v : V) : Rv → Prop
  | .d x => Dq K F v x
  | .o i => sg σ i = some v ∧ ∃ m t, ρ[i]? = some (Sl.own m t)
theorem RvOk.step {K : Fg} {T : List Nat} {F H F1 H1 : Hp} {σ : Sg} {ρ ρ1 : Rho} {fp fp1 : FP} {v : V} (a : EStep K T F H σ ρ fp F1 H1 ρ1 fp1) : ∀ {r : Rv}, RvOk K F σ ρ v r → RvOk K F1 σ ρ1 v r
  | .d _, h => dq_mono a.st.fr _ _ h
  | .o i, ⟨h, m, ob, e⟩ => ⟨h, let ⟨o', e'⟩ := a.ko i m ob e; ⟨m, o', e'⟩⟩
inductive RvsOk (K : Fg) (F : Hp) (σ : Sg) (ρ : Rho) : List V → List Rv → Prop
  | nil : RvsOk K F σ ρ [] []
  | cons {v vs r rs} : RvOk K F σ ρ v r → RvsOk K F σ ρ vs rs → RvsOk K F σ ρ (v :: vs) (r :: rs)
theorem RvsOk.step {K : Fg} {T : List Nat} {F H F1 H1 : Hp} {σ : Sg} {ρ ρ1 : Rho} {fp fp1 : FP} (a : EStep K T F H σ ρ fp F1 H1 ρ1 fp1) : ∀ {vs : List V} {rs : List Rv}, RvsOk K F σ ρ vs rs → RvsOk K F1 σ ρ1 vs rs
  | _, _, .nil => .nil
  | _, _, .cons h t => .cons (h.step a) (RvsOk.step a t)
structure NewOk (K : Fg) (H : Hp) (fp : FP) (F' H' : Hp) (fp' : FP) (v : V) (t : Tr) (A : List Addr) : Prop where
  ok : TrOk K F' H' v t A
  nd : A.Nodup
  new : ∀ b ∈ A, H b = none ∨ Owns fp b
  out : ∀ b ∈ A, ¬ Owns fp' b

inductive Er (α : Type) where
  | ok (a : α) (ρ : Rho)
  | ex (c : Str) (ρ : Rho)
noncomputable abbrev M (α : Type) := Rho → Option (Er α)
noncomputable def bnd {α β : Type} (f : M α) (k : α → M β) : M β := fun ρ => match f ρ with
  | some (.ok a ρ1) => k a ρ1
  | some (.ex c ρ1) => some (.ex c ρ1)
  | none => none
noncomputable def ret {α : Type} (a : α) : M α := fun ρ => some (.ok a ρ)
noncomputable abbrev WV := Str → Sg → Hp → Prop
structure Rl (K : Fg) (α β : Type) where
  r : Hp → FP → Hp → Hp → FP → Sg → Rho → β → α → Prop
  back : ∀ {T F H F1 H1 F2 H2 σ ρ ρ1 ρ2 fp fp1 fp2 b a}, EStep K T F H σ ρ fp F1 H1 ρ1 fp1 → r H1 fp1 F2 H2 fp2 σ ρ2 b a → r H fp F2 H2 fp2 σ ρ2 b a
noncomputable def Pst {α β : Type} {K : Fg} (T : List Nat) (W : WV) (R : Rl K α β) (F H : Hp) (σ : Sg) (ρ : Rho) (fp : FP) (Q : β → Hp → Prop) : Er α → Prop
  | .ok a ρ' => ∀ b H' F' fp', EStep K T F H σ ρ fp F' H' ρ' fp' → R.r H fp F' H' fp' σ ρ' b a → Q b H'
  | .ex c ρ' => ∀ H' F' fp', EStep K T F H σ ρ fp F' H' ρ' fp' → W c σ H'
noncomputable def TVg {α β : Type} {K : Fg} (T : List Nat) (W : WV) (R : Rl K α β) (f : M α) (σ : Sg) (H : Hp) (Q : β → Hp → Prop) : Prop :=
  ∃ F ρ fp o, EnvOk K F H σ ρ fp ∧ f ρ = some o ∧ Pst T W R F H σ ρ fp Q o
theorem Pst.step {α β : Type} {K : Fg} {T T' : List Nat} {W : WV} {R : Rl K α β} {F H F1 H1 : Hp} {σ : Sg} {ρ ρ1 : Rho} {fp fp1 : FP} {Q : β → Hp → Prop} (a : EStep K T F H σ ρ fp F1 H1 ρ1 fp1) (hT : ∀ i ∈ T, i ∈ T') :
    ∀ {o : Er α}, Pst T' W R F H σ ρ fp Q o → Pst T' W R F1 H1 σ ρ1 fp1 Q o
  | .ok _ _, h => fun b H' F' fp' e r => h b H' F' fp' ((a.sub hT).trans e) (R.back a r)
  | .ex _ _, h => fun H' F' fp' e => h H' F' fp' ((a.sub hT).trans e)
theorem tv_bnd {α β γ δ : Type} {K : Fg} {T T' : List Nat} {W : WV} {R : Rl K α β} {R2 : Rl K γ δ} {f : M α} {k : α → M γ} {F H : Hp} {σ : Sg} {ρ : Rho} {fp : FP} {o : Er γ} {Q : δ → Hp → Prop} {Q1 : β → Hp → Prop}
    (E : EnvOk K F H σ ρ fp) (e : bnd f k ρ = some o) (P : Pst T' W R2 F H σ ρ fp Q o) (hT : ∀ i ∈ T, i ∈ T')
    (hk : ∀ a ρ1 b H1 F1 fp1, EStep K T F H σ ρ fp F1 H1 ρ1 fp1 → R.r H fp F1 H1 fp1 σ ρ1 b a → k a ρ1 = some o → Pst T' W R2 F1 H1 σ ρ1 fp1 Q o → Q1 b H1) : TVg T W R f σ H Q1 := by
  unfold bnd at e
  cases q : f ρ with
  | none => rw [q] at e; cases e
  | some r =>
    rw [q] at e
    cases r with
    | ok a ρ1 => exact ⟨F, ρ, fp, _, E, q, fun b H1 F1 fp1 st r => hk a ρ1 b H1 F1 fp1 st r e (P.step st hT)⟩
    | ex c ρ1 =>
      cases e
      exact ⟨F, ρ, fp, _, E, q, fun H1 F1 fp1 st => P H1 F1 fp1 (st.sub hT)⟩
noncomputable def rlV (K : Fg) : Rl K Rv V := ⟨fun _ _ F' _ _ σ ρ' v r => RvOk K F' σ ρ' v r, fun _ h => h⟩
noncomputable def rlA (K : Fg) : Rl K (List Rv) (List V) := ⟨fun _ _ F' _ _ σ ρ' v r => RvsOk K F' σ ρ' v r, fun _ h => h⟩
noncomputable def rlT (K : Fg) : Rl K Bool Bool := ⟨fun _ _ _ _ _ _ _ v r => v = r, fun _ h => h⟩
noncomputable def rlN (K : Fg) : Rl K Tr V := ⟨fun H fp F' H' fp' _ _ v t => ∃ A, NewOk K H fp F' H' fp' v t A, fun e h => by
  obtain ⟨A, h⟩ := h
  refine ⟨A, h.ok, h.nd, fun b hb => ?_, h.out⟩
  rcases h.new b hb with z | z
  · exact .inl (e.st.dom b z)
  · exact (e.st.own b z).symm⟩
noncomputable abbrev tV (K : Fg) (T : List Nat) (W : WV) (f : M Rv) : TE := fun σ H Q => TVg T W (rlV K) f σ H Q
noncomputable abbrev tVN (K : Fg) (T : List Nat) (W : WV) (f : M Tr) : TE := fun σ H Q => TVg T W (rlN K) f σ H Q
noncomputable abbrev tVT (K : Fg) (T : List Nat) (W : WV) (f : M Bool) : TT := fun σ H Q => TVg T W (rlT K) f σ H Q
noncomputable abbrev tVA (K : Fg) (T : List Nat) (W : WV) (f : M (List Rv)) : TA := fun σ H Q => TVg T W (rlA K) f σ H Q
noncomputable def VE (X : Cx) (T : List Nat) (W : WV) (e : Expr) (f : M Rv) : Prop := PE X e (tV X.K T W f)
noncomputable def VN (X : Cx) (T : List Nat) (W : WV) (e : Expr) (f : M Tr) : Prop := PE X e (tVN X.K T W f)
noncomputable def VT (X : Cx) (T : List Nat) (W : WV) (e : Expr) (f : M Bool) : Prop := PT X e (tVT X.K T W f)
noncomputable def VW (X : Cx) (T : List Nat) (W : WV) (e : Expr) (f : M Bool) : Prop := PW X e (tVT X.K T W f)
noncomputable def VA (X : Cx) (T : List Nat) (W : WV) (es : List Expr) (f : M (List Rv)) : Prop := PA X es (tVA X.K T W f)
theorem pe_imp {X : Cx} {e : Expr} {t t' : TE} (h : PE X e t) (i : ∀ σ H Q, t' σ H Q → t σ H Q) : PE X e t' := ⟨fun pins s σ H Q I q => h.run pins s σ H Q I (i σ H Q q)⟩
theorem pt_imp {X : Cx} {e : Expr} {t t' : TT} (h : PT X e t) (i : ∀ σ H Q, t' σ H Q → t σ H Q) : PT X e t' := ⟨fun pins s σ H Q I q => h.run pins s σ H Q I (i σ H Q q)⟩
theorem pw_imp {X : Cx} {e : Expr} {t t' : TT} (h : PW X e t) (i : ∀ σ H Q, t' σ H Q → t σ H Q) : PW X e t' := ⟨fun wh pins s σ H Q I q => h.run wh pins s σ H Q I (i σ H Q q)⟩
theorem pa_imp {X : Cx} {e : List Expr} {t t' : TA} (h : PA X e t) (i : ∀ σ H Q, t' σ H Q → t σ H Q) : PA X e t' := ⟨fun pos pins s σ H Q I q => h.run pos pins s σ H Q I (i σ H Q q)⟩
theorem ps_imp {X : Cx} {e : Stmt} {t t' : TS} (h : PS X e t) (i : ∀ D σ H, t' D σ H → t D σ H) : PS X e t' := ⟨fun pins s σ H D I q => h.run pins s σ H D I (i D σ H q)⟩
theorem pss_imp {X : Cx} {e : List Stmt} {t t' : TS} (h : PSs X e t) (i : ∀ D σ H, t' D σ H → t D σ H) : PSs X e t' := ⟨fun pins s σ H D I q => h.run pins s σ H D I (i D σ H q)⟩

noncomputable def der (ρ : Rho) : Rv → Option PyData
  | .d x => some x
  | .o i => match ρ[i]? with
    | some (.own _ t) => t.toD
    | _ => none
noncomputable def flat : List Tr → Option (List PyData)
  | [] => some []
  | .dat d :: ts => (flat ts).map (d :: ·)
  | _ :: _ => none
noncomputable def derS (ρ : Rho) : Rv → Option PyData
  | .d x => some x
  | .o i => match ρ[i]? with
    | some (.own _ (.lst ts)) => (flat ts).map .list
    | _ => none
theorem flat_ok : ∀ {ts : List Tr} {ds : List PyData}, flat ts = some ds → ts = ds.map .dat
  | [], _, e => by simp only [flat] at e; cases e; rfl
  | .dat d :: ts, ds, e => by
    simp only [flat] at e
    cases z : flat ts with
    | none => rw [z] at e; cases e
    | some es => rw [z] at e; cases e; rw [flat_ok z]; rfl
  | .tup _ :: _, _, e => by simp [flat] at e
  | .lst _ :: _, _, e => by simp [flat] at e
  | .dk _ :: _, _, e => by simp [flat] at e
  | .dt _ :: _, _, e => by simp [flat] at e
  | .ins _ _ :: _, _, e => by simp [flat] at e
  | .fk _ :: _, _, e => by simp [flat] at e
  | .ft _ :: _, _, e => by simp [flat] at e
  | .raw _ :: _, _, e => by simp [flat] at e
  | .sd _ :: _, _, e => by simp [flat] at e
  | .hole :: _, _, e => by simp [flat] at e
theorem flat_dat : ∀ ds : List PyData, flat (ds.map .dat) = some ds
  | [] => rfl
  | d :: ds => by simp [flat, flat_dat ds]
theorem der_ok {K : Fg} {F H : Hp} {σ : Sg} {ρ : Rho} {fp : FP} {v : V} {d : PyData} (E : EnvOk K F H σ ρ fp) : ∀ {r : Rv}, RvOk K F σ ρ v r → der ρ r = some d → Dq K H v d
  | .d x, h, e => by simp only [der] at e; cases e; exact dq_mono E.sub _ _ h
  | .o i, ⟨h, m, t, e⟩, q => by
    simp only [der, e] at q
    obtain ⟨u, e1, e2⟩ := E.sl i _ e
    rw [h] at e1
    cases e1
    exact e2.dp E.sub (fun _ _ => rfl) q
noncomputable def DpS (K : Fg) (F H : Hp) (v : V) (d : PyData) : Prop := Dq K F v d ∨ ∃ a vs ds, v = .ref a ∧ d = .list ds ∧ H a = some (.lst vs) ∧ DqAll K F vs ds
theorem derS_ok {K : Fg} {F H : Hp} {σ : Sg} {ρ : Rho} {fp : FP} {v : V} {d : PyData} (E : EnvOk K F H σ ρ fp) : ∀ {r : Rv}, RvOk K F σ ρ v r → derS ρ r = some d → DpS K F H v d
  | .d x, h, e => by simp only [derS] at e; cases e; exact .inl h
  | .o i, ⟨h, m, t, e⟩, q => by
    simp only [derS, e] at q
    obtain ⟨u, e1, e2⟩ := E.sl i _ e
    rw [h] at e1
    cases e1
    cases t with
    | lst ts =>
      cases z : flat ts with
      | none => simp only [z] at q; cases q
      | some ds =>
        simp only [z] at q
        cases q
        have := flat_ok z
        subst this
        generalize fp i = A at e2
        cases e2 with
        | lst h1 h2 h3 =>
          obtain ⟨_, h4⟩ := trs_dat' h3
          exact .inr ⟨_, _, ds, rfl, rfl, h1, h4⟩
    | _ => cases q
theorem DpS.dp {K : Fg} {F H : Hp} {v : V} {d : PyData} (s : Same F H) (h : DpS K F H v d) : Dq K H v d := by
  rcases h with h | ⟨a, vs, ds, rfl, rfl, h1, h2⟩
  · exact dq_mono s _ _ h
  · exact .lst (.inl h1) (dqAll_mono s _ _ h2)
theorem DpS.list {K : Fg} {F H : Hp} {v : V} {ds : List PyData} (s : Same F H) (h : DpS K F H v (.list ds)) : ∃ a vs, v = .ref a ∧ Rd H a (.lst vs) ∧ DqAll K F vs ds := by
  rcases h with h | ⟨a, vs, ds', rfl, e, h1, h2⟩
  · cases h with
    | lst hs ha => exact ⟨_, _, rfl, rd_mono s hs, ha⟩
  · cases e; exact ⟨a, vs, rfl, .inl h1, h2⟩
theorem DpS.tup {K : Fg} {F H : Hp} {v : V} {ds : List PyData} (s : Same F H) (h : DpS K F H v (.tuple ds)) : ∃ a vs, v = .ref a ∧ SqT K H a vs ∧ DqAll K F vs ds ∧ Dq K F v (.tuple ds) := by
  rcases h with h | ⟨a, vs, ds', rfl, e, h1, h2⟩
  · cases h with
    | tups hs ha => exact ⟨_, _, rfl, (hs.mono s).sq, ha, .tups hs ha⟩
  · cases e
theorem DpS.int {K : Fg} {F H : Hp} {v : V} {i : Int} (h : DpS K F H v (.int i)) : v = .int i := by
  rcases h with h | ⟨a, vs, ds', rfl, e, h1, h2⟩
  · cases h; rfl
  · cases e
theorem DpS.bl {K : Fg} {F H : Hp} {v : V} {i : Bool} (h : DpS K F H v (.bool i)) : v = .bl i := by
  rcases h with h | ⟨a, vs, ds', rfl, e, h1, h2⟩
  · cases h; rfl
  · cases e
theorem DpS.str {K : Fg} {F H : Hp} {v : V} {i : Str} (h : DpS K F H v (.str i)) : v = .str i := by
  rcases h with h | ⟨a, vs, ds', rfl, e, h1, h2⟩
  · cases h; rfl
  · cases e
theorem DpS.non {K : Fg} {F H : Hp} {v : V} (h : DpS K F H v .none) : v = .non := by
  rcases h with h | ⟨a, vs, ds', rfl, e, h1, h2⟩
  · cases h; rfl
  · cases e
end VL

end

section
set_option Elab.async false
set_option linter.all false
set_option maxRecDepth 100000
namespace VL
open PySem PySem.Spec PyProof.Rows L2

section
variable {X : Cx} {T T1 T2 T3 : List Nat} {W : WV}
theorem ok_inj {α : Type} {a : α} {ρ : Rho} {o : Er α} (h : some (Er.ok a ρ) = some o) : o = .ok a ρ := (Option.some.inj h).symm

noncomputable def cD (x : PyData) : M Rv := ret (.d x)
theorem ve_int {i j pos} : VE X [] W (.Constant (.int i) j pos) (cD (.int i)) := pe_imp pe_int fun σ H Q ⟨F, ρ, fp, o, E, e, P⟩ => by
  cases ok_inj e
  exact P _ H F fp (.refl E) (.int i)
theorem ve_bl {i j pos} : VE X [] W (.Constant (.bool i) j pos) (cD (.bool i)) := pe_imp pe_bl fun σ H Q ⟨F, ρ, fp, o, E, e, P⟩ => by
  cases ok_inj e
  exact P _ H F fp (.refl E) (.bl i)
theorem ve_non {j pos} : VE X [] W (.Constant .none j pos) (cD .none) := pe_imp pe_non fun σ H Q ⟨F, ρ, fp, o, E, e, P⟩ => by
  cases ok_inj e
  exact P _ H F fp (.refl E) .non
theorem ve_str {i j pos} : VE X [] W (.Constant (.str i) j pos) (cD (.str i)) := pe_imp pe_str fun σ H Q ⟨F, ρ, fp, o, E, e, P⟩ => by
  cases ok_inj e
  exact P _ H F fp (.refl E) (.str i)
theorem ve_strC {i k : Str} (h : i = k) {j pos} : VE X [] W (.Constant (.str i) j pos) (cD (.str k)) := by
  subst h
  exact ve_str
noncomputable def cVar (i : Nat) : M Rv := fun ρ => match ρ[i]? with
  | some (.val d) => some (.ok (.d d) ρ)
  | some (.own _ (.dat d)) => some (.ok (.d d) ρ)
  | some (.own _ _) => some (.ok (.o i) ρ)
  | _ => none
theorem ve_var (i : Nat) {x : Str} {pos : Pos} (hN : X.N[i]? = some x := by rfl) (hv : Vis X.env.scope x := by first | exact Or.inl rfl | exact Or.inr (Or.inl rfl) | exact Or.inr (Or.inr rfl)) (hd : (x == ("__debug__" : Str)) = false := by decide)
    (hcd : (x == ("__classdict__" : Str)) = false := by decide) : VE X [] W (.Name x pos) (cVar i) := by
  refine pe_imp (pe_var hN hv hd hcd) fun σ H Q ⟨F, ρ, fp, o, E, e, P⟩ => ?_
  unfold cVar at e
  split at e
  · rename_i d h
    cases ok_inj e
    obtain ⟨u, hu, q⟩ := E.sl i _ h
    exact ⟨u, sg_some.mp hu, P u H F fp (.refl E) q⟩
  · rename_i m d h
    cases ok_inj e
    obtain ⟨u, hu, q⟩ := E.sl i _ h
    generalize fp i = A at q
    cases q with
    | dat q => exact ⟨u, sg_some.mp hu, P u H F fp (.refl E) q⟩
  · rename_i m t _ h
    cases ok_inj e
    obtain ⟨u, hu, q⟩ := E.sl i _ h
    exact ⟨u, sg_some.mp hu, P u H F fp (.refl E) ⟨hu, m, t, h⟩⟩
  · cases e
noncomputable def OpOk (K : Fg) (r : R2) (g : PyData → PyData → Option PyData) : Prop := ∀ F H x y dx dy z Q, Same F H → DpS K F H x dx → DpS K F H y dy → g dx dy = some z → (∀ v F' H', Grow F H F' H' → Dq K F' v z → Q v H') → r x y H Q
noncomputable def bin1 (g : PyData → PyData → Option PyData) (x y : Rv) : M Rv := fun ρ => match derS ρ x, derS ρ y with
  | some a, some b => (match g a b with
    | some z => some (.ok (.d z) ρ)
    | none => none)
  | _, _ => none
noncomputable def cBin (g : PyData → PyData → Option PyData) (fa fb : M Rv) : M Rv := bnd fa fun x => bnd fb fun y => bin1 g x y
variable {fa fb fc : M Rv} {g : PyData → PyData → Option PyData} {r r' : R2} {a b c : Expr} {pos : Pos}
theorem tv_bin {σ : Sg} {H : Hp} {Q : VK} (hg : OpOk X.K r g) (h : tV X.K (T1 ++ T2) W (cBin g fa fb) σ H Q) : tOp r (tV X.K T1 W fa) (tV X.K T2 W fb) σ H Q := by
  obtain ⟨F, ρ, fp, o, E, e, P⟩ := h
  refine tv_bnd E e P (fun i hi => List.mem_append_left _ hi) fun x ρ1 v H1 F1 fp1 s1 r1 e1 P1 => ?_
  refine tv_bnd s1.env e1 P1 (fun i hi => List.mem_append_right _ hi) fun y ρ2 w H2 F2 fp2 s2 r2 e2 P2 => ?_
  unfold bin1 at e2
  split at e2
  · rename_i p q hp hq
    split at e2
    · rename_i z hz
      cases ok_inj e2
      exact hg F2 H2 v w p q z Q s2.env.sub (derS_ok s2.env (RvOk.step s2 r1) hp) (derS_ok s2.env r2 hq) hz fun v' F3 H3 gr dp => P2 v' H3 F3 fp2 (gr.step s2.env) dp
    · cases e2
  · cases e2
theorem ve_bin {op : Operator} (ho : OpR X (binaryOp op) r) (hg : OpOk X.K r g) (ha : VE X T1 W a fa) (hb : VE X T2 W b fb) : VE X (T1 ++ T2) W (.BinOp a op b pos) (cBin g fa fb) :=
  pe_imp (pe_op ho ha hb) fun σ H Q h => tv_bin hg h
noncomputable def OpOkD (K : Fg) (r : R2) (g : PyData → PyData → Option Bool) : Prop := ∀ H x y dx dy z (Q : VK), Dq K H x dx → Dq K H y dy → g dx dy = some z → Q (.bl z) H → r x y H Q
noncomputable def binD (g : PyData → PyData → Option Bool) (x y : Rv) : M Bool := fun ρ => match der ρ x, der ρ y with
  | some a, some b => (match g a b with
    | some z => some (.ok z ρ)
    | none => none)
  | _, _ => none
noncomputable def cCmp (g : PyData → PyData → Option Bool) (fa fb : M Rv) : M Bool := bnd fa fun x => bnd fb fun y => binD g x y
noncomputable def cOf (f : M Bool) : M Rv := bnd f fun b => ret (.d (.bool b))
variable {gd gd' : PyData → PyData → Option Bool} {fA fB : M Bool}
theorem tv_cmp {σ : Sg} {H : Hp} {Q : Bool → Hp → Prop} (hg : OpOkD X.K r gd) (h : tVT X.K (T1 ++ T2) W (cCmp gd fa fb) σ H Q) : tTest (tOp r (tV X.K T1 W fa) (tV X.K T2 W fb)) σ H Q := by
  obtain ⟨F, ρ, fp, o, E, e, P⟩ := h
  refine tv_bnd E e P (fun i hi => List.mem_append_left _ hi) fun x ρ1 v H1 F1 fp1 s1 r1 e1 P1 => ?_
  refine tv_bnd s1.env e1 P1 (fun i hi => List.mem_append_right _ hi) fun y ρ2 w H2 F2 fp2 s2 r2 e2 P2 => ?_
  unfold binD at e2
  split at e2
  · rename_i p q hp hq
    split at e2
    · rename_i z hz
      cases ok_inj e2
      exact hg H2 v w p q z _ (der_ok s2.env (RvOk.step s2 r1) hp) (der_ok s2.env r2 hq) hz ⟨z, rfl, P2 z H2 F2 fp2 (.refl s2.env) rfl⟩
    · cases e2
  · cases e2
theorem vt_cmp {op : CmpOp} (ho : OpR X (compareOp op) r) (hg : OpOkD X.K r gd) (ha : VE X T1 W a fa) (hb : VE X T2 W b fb) (hm : behindInMarks op b = false) : VT X (T1 ++ T2) W (.Compare a [op] [b] pos) (cCmp gd fa fb) :=
  pt_imp (pt_cmpR ho ha hb hm) fun σ H Q h => tv_cmp hg h
theorem of_cOf {K : Fg} {f : M Bool} {σ : Sg} {H : Hp} {Q : VK} (h : tV K T W (cOf f) σ H Q) : tVT K T W f σ H fun b H1 => Q (.bl b) H1 := by
  obtain ⟨F, ρ, fp, o, E, e, P⟩ := h
  refine tv_bnd E e P (fun i hi => hi) fun x ρ1 v H1 F1 fp1 s1 r1 e1 P1 => ?_
  cases ok_inj e1
  have r1 : v = x := r1
  subst r1
  exact P1 _ H1 F1 fp1 (.refl s1.env) (.bl v)
theorem ve_cmp {op : CmpOp} (ho : OpR X (compareOp op) r) (hg : OpOkD X.K r gd) (ha : VE X T1 W a fa) (hb : VE X T2 W b fb) (hm : behindInMarks op b = false) : VE X (T1 ++ T2) W (.Compare a [op] [b] pos) (cOf (cCmp gd fa fb)) := by
  refine pe_imp (pe_cmpR ho ha hb hm) fun σ H Q h => ?_
  obtain ⟨F, ρ, fp, o, E, e, P⟩ := of_cOf h
  refine tv_bnd E e P (fun i hi => List.mem_append_left _ hi) fun x ρ1 v H1 F1 fp1 s1 r1 e1 P1 => ?_
  refine tv_bnd s1.env e1 P1 (fun i hi => List.mem_append_right _ hi) fun y ρ2 w H2 F2 fp2 s2 r2 e2 P2 => ?_
  unfold binD at e2
  split at e2
  · rename_i p q hp hq
    split at e2
    · rename_i z hz
      cases ok_inj e2
      exact hg H2 v w p q z _ (der_ok s2.env (RvOk.step s2 r1) hp) (der_ok s2.env r2 hq) hz (P2 z H2 F2 fp2 (.refl s2.env) rfl)
    · cases e2
  · cases e2
noncomputable def cChain (g g' : PyData → PyData → Option Bool) (fa fb fc : M Rv) : M Bool := bnd fa fun x => bnd fb fun y => bnd (binD g x y) fun k => if k then bnd fc fun z => binD g' y z else ret false
noncomputable def asB (ρ : Rho) (x : Rv) : Option Bool := match der ρ x with
  | some (.bool b) => some b
  | _ => none
noncomputable def cTest (f : M Rv) : M Bool := bnd f fun x => fun ρ => match asB ρ x with
  | some b => some (.ok b ρ)
  | none => none
theorem tv_test {σ : Sg} {H : Hp} {Q : Bool → Hp → Prop} (h : tVT X.K T W (cTest fa) σ H Q) : TVg T W (rlV X.K) fa σ H fun x H1 => ∃ c, x = V.bl c ∧ Q c H1 := by
  obtain ⟨F, ρ, fp, o, E, e, P⟩ := h
  refine tv_bnd E e P (fun i hi => hi) fun x ρ1 v H1 F1 fp1 s1 r1 e1 P1 => ?_
  split at e1
  · rename_i b hb
    cases ok_inj e1
    unfold asB at hb
    split at hb
    · rename_i b' hd
      cases hb
      have q := der_ok s1.env r1 hd
      cases q
      exact ⟨_, rfl, P1 _ H1 F1 fp1 (.refl s1.env) rfl⟩
    · cases hb
  · cases e1
theorem vt_val (ha : VE X T W a fa) (he : ∀ whole, isTrue a X.env whole = (do let v ← whole; standAt a.pos; holding [v] (truthy v)) := by intro _; rfl) : VT X T W a (cTest fa) :=
  pt_imp (pt_val ha he) fun σ H Q h => tv_test h
noncomputable def cNot (f : M Bool) : M Bool := bnd f fun b => ret (!b)
theorem tv_not {K : Fg} {σ : Sg} {H : Hp} {Q : Bool → Hp → Prop} (h : tVT K T W (cNot fA) σ H Q) : tVT K T W fA σ H fun c H1 => Q (!c) H1 := by
  obtain ⟨F, ρ, fp, o, E, e, P⟩ := h
  refine tv_bnd E e P (fun i hi => hi) fun x ρ1 v H1 F1 fp1 s1 r1 e1 P1 => ?_
  cases ok_inj e1
  have r1 : v = x := r1
  subst r1
  exact P1 _ H1 F1 fp1 (.refl s1.env) rfl
theorem vt_not (ha : VT X T W a fA) : VT X T W (.UnaryOp .Not a pos) (cNot fA) := pt_imp (pt_not ha) fun σ H Q h => tv_not h
noncomputable def cAnd (f g : M Bool) : M Bool := bnd f fun b => if b then g else ret false
noncomputable def cOr (f g : M Bool) : M Bool := bnd f fun b => if b then ret true else g
variable {rest : List Expr}
theorem vw_and1 (ha : VT X T W a fA) : VW X T W (.BoolOp .And [a] pos) fA := pw_and1 ha
theorem vw_or1 (ha : VT X T W a fA) : VW X T W (.BoolOp .Or [a] pos) fA := pw_or1 ha
theorem vw_and (ha : VT X T1 W a fA) (hb : VW X T2 W (.BoolOp .And (b :: rest) pos) fB) : VW X (T1 ++ T2) W (.BoolOp .And (a :: b :: rest) pos) (cAnd fA fB) :=
  pw_imp (pw_and ha hb) fun σ H Q ⟨F, ρ, fp, o, E, e, P⟩ => by
    refine tv_bnd E e P (fun i hi => List.mem_append_left _ hi) fun x ρ1 v H1 F1 fp1 s1 r1 e1 P1 => ?_
    have r1 : v = x := r1
    subst r1
    cases v with
    | true =>
      rw [if_pos rfl] at e1 ⊢
      refine ⟨F1, ρ1, fp1, o, s1.env, e1, ?_⟩
      cases o with
      | ok a ρ' => exact fun b' H' F' fp' s r => P1 b' H' F' fp' (s.sub fun i hi => List.mem_append_right _ hi) r
      | ex c ρ' => exact fun H' F' fp' s => P1 H' F' fp' (s.sub fun i hi => List.mem_append_right _ hi)
    | false =>
      rw [if_neg Bool.false_ne_true] at e1 ⊢
      cases ok_inj e1
      exact P1 _ H1 F1 fp1 (.refl s1.env) rfl
theorem vw_or (ha : VT X T1 W a fA) (hb : VW X T2 W (.BoolOp .Or (b :: rest) pos) fB) : VW X (T1 ++ T2) W (.BoolOp .Or (a :: b :: rest) pos) (cOr fA fB) :=
  pw_imp (pw_or ha hb) fun σ H Q ⟨F, ρ, fp, o, E, e, P⟩ => by
    refine tv_bnd E e P (fun i hi => List.mem_append_left _ hi) fun x ρ1 v H1 F1 fp1 s1 r1 e1 P1 => ?_
    have r1 : v = x := r1
    subst r1
    cases v with
    | false =>
      rw [if_neg Bool.false_ne_true] at e1 ⊢
      refine ⟨F1, ρ1, fp1, o, s1.env, e1, ?_⟩
      cases o with
      | ok a ρ' => exact fun b' H' F' fp' s r => P1 b' H' F' fp' (s.sub fun i hi => List.mem_append_right _ hi) r
      | ex c ρ' => exact fun H' F' fp' s => P1 H' F' fp' (s.sub fun i hi => List.mem_append_right _ hi)
    | true =>
      rw [if_pos rfl] at e1 ⊢
      cases ok_inj e1
      exact P1 _ H1 F1 fp1 (.refl s1.env) rfl
theorem vw_pt (h : VW X T W a fA) : VT X T W a fA := PW.pt h
noncomputable def cAndV (f : M Rv) (g : M Rv) : M Rv := bnd (cTest f) fun b => if b then g else ret (.d (.bool false))
noncomputable def cOrV (f : M Rv) (g : M Rv) : M Rv := bnd (cTest f) fun b => if b then ret (.d (.bool true)) else g
noncomputable def cNotV (f : M Rv) : M Rv := bnd (cTest f) fun b => ret (.d (.bool (!b)))
noncomputable def cIf {α : Type} (c : M Bool) (f g : M α) : M α := bnd c fun b => if b then f else g
noncomputable def aNil : M (List Rv) := ret []
noncomputable def aCons (f : M Rv) (g : M (List Rv)) : M (List Rv) := bnd f fun x => bnd g fun xs => ret (x :: xs)
variable {es : List Expr} {e : Expr} {fs : M (List Rv)}
theorem va_nil : VA X [] W [] aNil := pa_imp pa_nil fun σ H Q ⟨F, ρ, fp, o, E, e, P⟩ => by
  cases ok_inj e
  exact P _ H F fp (.refl E) .nil
theorem va_cons (ha : VE X T1 W e fa) (hb : VA X T2 W es fs) (hs : starEach (e :: es) X.env = (false, eval e X.env) :: starEach es X.env := by rfl) : VA X (T1 ++ T2) W (e :: es) (aCons fa fs) :=
  pa_imp (pa_cons ha hb hs) fun σ H Q ⟨F, ρ, fp, o, E, e, P⟩ => by
    refine tv_bnd E e P (fun i hi => List.mem_append_left _ hi) fun x ρ1 v H1 F1 fp1 s1 r1 e1 P1 => ?_
    refine tv_bnd s1.env e1 P1 (fun i hi => List.mem_append_right _ hi) fun y ρ2 w H2 F2 fp2 s2 r2 e2 P2 => ?_
    cases ok_inj e2
    exact P2 _ H2 F2 fp2 (.refl s2.env) (.cons (RvOk.step s2 r1) r2)
noncomputable def datas : List Rv → Option (List PyData)
  | [] => some []
  | .d x :: rs => (datas rs).map (x :: ·)
  | .o _ :: _ => none
theorem datas_ok {K : Fg} {F : Hp} {σ : Sg} {ρ : Rho} : ∀ {vs : List V} {rs : List Rv} {ds : List PyData}, RvsOk K F σ ρ vs rs → datas rs = some ds → DqAll K F vs ds
  | _, _, _, .nil, e => by simp only [datas] at e; cases e; exact .nil
  | _, .d x :: rs, _, .cons h t, e => by
    simp only [datas] at e
    cases q : datas rs with
    | none => rw [q] at e; cases e
    | some ds => rw [q] at e; cases e; exact .cons h (datas_ok t q)
  | _, .o _ :: _, _, .cons _ _, e => by simp [datas] at e
noncomputable def small (n : Nat) : Bool := decide (n ≤ sizeLine)
noncomputable def mkTup (rs : List Rv) : M Rv := fun ρ => match datas rs with
  | some ds => if small ds.length then some (.ok (.d (.tuple ds)) ρ) else none
  | none => none
noncomputable def cTup (fs : M (List Rv)) : M Rv := bnd fs mkTup
theorem ve_tup {x1} (h : VA X T W es fs) : VE X T W (.Tuple es x1 pos) (cTup fs) := pe_imp (pe_tup h) fun σ H Q ⟨F, ρ, fp, o, E, e, P⟩ => by
  refine tv_bnd E e P (fun i hi => hi) fun rs ρ1 vs H1 F1 fp1 s1 r1 e1 P1 => ?_
  unfold mkTup at e1
  split at e1
  · rename_i ds hd
    split at e1
    · rename_i hz
      cases ok_inj e1
      have q := datas_ok r1 hd
      refine ⟨by rw [dqAll_len q]; exact of_decide_eq_true hz, fun p np => P1 _ _ _ fp1 ((Grow.new (.tup vs) s1.env.sub np).step s1.env) ?_⟩
      exact .tup upd_same (dqAll_mono (same_upd (s1.env.sub.free np)) _ _ q)
    · cases e1
  · cases e1
noncomputable def mkLst (rs : List Rv) : M Tr := fun ρ => match datas rs with
  | some ds => if small ds.length then some (.ok (.lst (ds.map .dat)) ρ) else none
  | none => none
noncomputable def nLst (fs : M (List Rv)) : M Tr := bnd fs mkLst
theorem new_lst {K : Fg} {T : List Nat} {F H : Hp} {σ : Sg} {ρ : Rho} {fp : FP} {p : Addr} {vs : List V} {ds : List PyData} (E : EnvOk K F H σ ρ fp) (np : H p = none) (q : DqAll K F vs ds) :
    EStep K T F H σ ρ fp F (upd H p (.lst vs)) ρ fp ∧ NewOk K H fp F (upd H p (.lst vs)) fp (.ref p) (.lst (ds.map .dat)) [p] := by
  refine ⟨(Grow.lay (.lst vs) E.sub np).step E, .lst upd_same (E.sub.free np) (trs_dat q), by simp, fun b hb => ?_, fun b hb ho => ?_⟩
  · rw [List.mem_singleton.mp hb]; exact .inl np
  · rw [List.mem_singleton.mp hb] at ho
    exact (E.there ho).1 np
theorem vn_lst (h : VA X T W es fs) : VN X T W (.List es pos) (nLst fs) := pe_imp (pe_lst h) fun σ H Q ⟨F, ρ, fp, o, E, e, P⟩ => by
  refine tv_bnd E e P (fun i hi => hi) fun rs ρ1 vs H1 F1 fp1 s1 r1 e1 P1 => ?_
  unfold mkLst at e1
  split at e1
  · rename_i ds hd
    split at e1
    · rename_i hz
      cases ok_inj e1
      have q := datas_ok r1 hd
      refine ⟨by rw [dqAll_len q]; exact of_decide_eq_true hz, fun p np => ?_⟩
      have z := new_lst (T := T) s1.env np q
      exact P1 _ _ _ fp1 z.1 ⟨_, z.2⟩
    · cases e1
  · cases e1
noncomputable def cFrz (f : M Tr) : M Rv := bnd f fun t => fun ρ => match t.toD with
  | some d => some (.ok (.d d) ρ)
  | none => none
theorem frz_step {K : Fg} {T : List Nat} {F H : Hp} {σ : Sg} {ρ : Rho} {fp : FP} {A : List Addr} (E : EnvOk K F H σ ρ fp) (hA : ∀ b ∈ A, H b ≠ none ∧ F b = none) (hn : ∀ b ∈ A, ∀ ps, H b ≠ some (.tbl ps)) (ho : ∀ b ∈ A, ¬ Owns fp b) :
    EnvOk K (frz F H A) H σ ρ fp := by
  refine ⟨frz_sub E.sub, E.len, fun i s h => ?_, E.nil, E.nd, E.ap, E.tb.frz (fun b hb => (hA b hb).2) hn, E.al⟩
  have q := E.sl i s h
  have s1 : Same F (frz F H A) := frz_same fun b hb => (hA b hb).2
  cases s with
  | no => trivial
  | al _ _ => trivial
  | val d => obtain ⟨u, e1, e2⟩ := q; exact ⟨u, e1, dq_mono s1 _ _ e2⟩
  | own m t =>
    obtain ⟨u, e1, e2⟩ := q
    refine ⟨u, e1, e2.move s1 fun b hb => ⟨rfl, ?_⟩⟩
    unfold frz
    rw [if_neg fun z => ho b z ⟨i, hb⟩]
    exact (e2.mem b hb).2
theorem tv_frz {K : Fg} {f : M Tr} {σ : Sg} {H : Hp} {Q : VK} (h : tV K T W (cFrz f) σ H Q) : tVN K T W f σ H Q := by
  obtain ⟨F, ρ, fp, o, E, e, P⟩ := h
  unfold cFrz bnd at e
  cases hf : f ρ with
  | none => rw [hf] at e; cases e
  | some r =>
    cases r with
    | ex c ρ1 => rw [hf] at e; cases e; exact ⟨F, ρ, fp, _, E, hf, fun H1 F1 fp1 st => P H1 F1 fp1 st⟩
    | ok t ρ1 =>
      rw [hf] at e
      refine ⟨F, ρ, fp, _, E, hf, fun v H1 F1 fp1 s1 ⟨A, n⟩ => ?_⟩
      simp only at e
      split at e
      · rename_i d hd
        cases ok_inj e
        have hA := n.ok.mem
        have E2 := frz_step (T := T) s1.env hA n.ok.ntb n.out
        refine P v H1 (frz F1 H1 A) fp1 ⟨⟨E2, s1.st.fr.trans (frz_same fun b hb => (hA b hb).2), fun b h h' => ?_, s1.st.dom, s1.st.frame, s1.st.own, s1.st.pin, s1.st.lock⟩, s1.ko, s1.un⟩ ?_
        · by_cases hb : b ∈ A
          · exact (n.new b hb).imp_right .inl
          · unfold frz at h'
            rw [if_neg hb] at h'
            exact s1.st.nf b h h'
        · refine n.ok.dp (frz_same fun b hb => (hA b hb).2) (fun b hb => ?_) hd
          unfold frz
          rw [if_pos hb]
      · cases e
theorem ve_frz {f : M Tr} (h : VN X T W e f) : VE X T W e (cFrz f) := pe_imp h fun σ H Q q => tv_frz q
noncomputable def nDat (f : M Rv) : M Tr := bnd f fun x => fun ρ => match x with
  | .d d => some (.ok (.dat d) ρ)
  | .o _ => none
theorem vn_dat (h : VE X T W e fa) : VN X T W e (nDat fa) := pe_imp h fun σ H Q ⟨F, ρ, fp, o, E, q, P⟩ => by
  refine tv_bnd E q P (fun i hi => hi) fun x ρ1 v H1 F1 fp1 s1 r1 e1 P1 => ?_
  cases x with
  | o i => cases e1
  | d d =>
    cases ok_inj e1
    exact P1 _ _ _ fp1 (.refl s1.env) ⟨[], .dat r1, List.nodup_nil, (fun b hb => nomatch hb), (fun b hb => nomatch hb)⟩
end
end VL

end

section
set_option Elab.async false
set_option linter.all false
set_option maxRecDepth 100000
set_option exponentiation.threshold 3000
namespace VL
open PySem PySem.Spec PyProof.Rows L2

section
variable {X : Cx} {T T1 T2 T3 : List Nat} {W : WV} {K : Fg}
theorem opr_or {f : Value → Value → Sem Value} {r r' : R2} (h : OpR X f r) (h' : OpR X f r') : OpR X f (fun x y H Q => r x y H Q ∨ r' x y H Q) :=
  fun pins s σ H x y v u Q I rx ry q => q.elim (h pins s σ H x y v u Q I rx ry) (h' pins s σ H x y v u Q I rx ry)
theorem lstR {pins : List (Addr × Obj)} {σ : Sg} {H : Hp} {s : Shared} {l : Addr} {xs : List V} (I : Inv X pins σ H s) (hH : Rd H l (.lst xs)) : xs.length ≤ sizeLine ∧ ∃ (its : List Value) (n : Nat), Vals xs its ∧ xs.length = its.length ∧ s.heap.get? l = some { cls := .type "list", data := .seq its.toArray n } := by
  obtain ⟨z, its, n, r, e⟩ := hH.ok I.hok
  exact ⟨z, its, n, r, r.length, e⟩
noncomputable def rCatR : R2 := fun x y H Q => ∃ l b xs zs, x = .ref l ∧ y = .ref b ∧ Rd H l (.lst xs) ∧ Rd H b (.lst zs) ∧ xs.length + zs.length ≤ sizeLine ∧ ∀ p, H p = none → Q (.ref p) (upd H p (.lst (xs ++ zs)))
theorem op_catR : OpR X (binaryOp .Add) rCatR := by
  intro pins s σ H x y v u Q I rx ry h
  obtain ⟨l, b, xs, zs, rfl, rfl, hH, hB, hz, q⟩ := h
  cases rx
  cases ry
  obtain ⟨z, its, n, r, hl, e⟩ := lstR I hH
  obtain ⟨z2, its2, n2, r2, hl2, e2⟩ := lstR I hB
  refine PySem.P.add_list e e2 ?_ (by rw [List.size_toArray, List.size_toArray]; omega)
  have ea : its.toArray ++ its2.toArray = (its ++ its2).toArray := by simp
  rw [ea]
  exact ⟨.ref _, _, I.lnew (t' := s.toks) (r.append r2) (by rw [List.length_append]; omega), rfl, q _ I.fresh⟩
noncomputable def addD : PyData → PyData → Option PyData
  | .int i, .int j => some (.int (i + j))
  | .tuple xs, .tuple ys => if small (xs.length + ys.length) then some (.tuple (xs ++ ys)) else none
  | .list xs, .list ys => if small (xs.length + ys.length) then some (.list (xs ++ ys)) else none
  | .str x, .str y => if small (x.length + y.length) then some (.str (x ++ y)) else none
  | _, _ => none
noncomputable def rAddD (K : Fg) : R2 := fun x y H Q => ((rI0 fun i j => .int (i + j)) x y H Q ∨ rCatA K x y H Q) ∨ rCatR x y H Q ∨ (∃ i j, x = .str i ∧ y = .str j ∧ i.length + j.length ≤ sizeLine ∧ Q (.str (i ++ j)) H)
theorem op_addD : OpR X (binaryOp .Add) (rAddD X.K) := opr_or (opr_or op_add op_catA) (opr_or op_catR op_add_str)
theorem small_iff {n : Nat} : small n = true ↔ n ≤ sizeLine := by unfold small; exact decide_eq_true_iff
theorem ok_addD : OpOk K (rAddD K) addD := by
  intro F H x y dx dy z Q s hx hy e k
  unfold addD at e
  split at e
  · cases e
    cases hx.int; cases hy.int
    exact .inl (.inl ⟨_, _, rfl, rfl, k _ F H (.refl s) (.int _)⟩)
  · rename_i xs ys
    split at e
    · rename_i hz
      cases e
      obtain ⟨a, vs, rfl, h1, h2, h3⟩ := hx.tup s
      obtain ⟨b, ws, rfl, h4, h5, h6⟩ := hy.tup s
      refine .inl (.inr ⟨a, b, vs, ws, rfl, rfl, h1, h4, by rw [dqAll_len h2, dqAll_len h5]; exact small_iff.mp hz, fun e0 => ?_, fun _ e0 => ?_, fun _ _ p np => ?_⟩)
      · subst e0
        cases h2
        exact k _ F H (.refl s) h6
      · subst e0
        cases h5
        rw [List.append_nil] at k
        exact k _ F H (.refl s) h3
      · exact k _ _ _ (.new _ s np) (.tup upd_same (dqAll_mono (same_upd (s.free np)) _ _ (dqAll_app h2 h5)))
    · cases e
  · rename_i xs ys
    split at e
    · rename_i hz
      cases e
      obtain ⟨a, vs, rfl, h1, h2⟩ := hx.list s
      obtain ⟨b, ws, rfl, h4, h5⟩ := hy.list s
      refine .inr (.inl ⟨a, b, vs, ws, rfl, rfl, h1, h4, by rw [dqAll_len h2, dqAll_len h5]; exact small_iff.mp hz, fun p np => ?_⟩)
      exact k _ _ _ (.new _ s np) (.lst (.inl upd_same) (dqAll_mono (same_upd (s.free np)) _ _ (dqAll_app h2 h5)))
    · cases e
  · split at e
    · rename_i hz
      cases e
      cases hx.str; cases hy.str
      exact .inr (.inr ⟨_, _, rfl, rfl, small_iff.mp hz, k _ F H (.refl s) (.str _)⟩)
    · cases e
  · cases e
noncomputable def subtD : PyData → PyData → Option PyData
  | .int i, .int j => some (.int (i - j))
  | _, _ => none
theorem ok_subtD : OpOk K (rI0 fun i j => .int (i - j)) subtD := by
  intro F H x y dx dy z Q s hx hy e k
  unfold subtD at e
  split at e
  · cases e
    cases hx.int; cases hy.int
    exact ⟨_, _, rfl, rfl, k _ F H (.refl s) (.int _)⟩
  · cases e
noncomputable def lim : Nat := 2 ^ 2000
noncomputable def mulD : PyData → PyData → Option PyData
  | .int i, .int j => if i.natAbs < lim ∧ j.natAbs < lim then some (.int (i * j)) else none
  | _, _ => none
theorem ok_mulD : OpOk K (rI CMulW fun i j => .int (i * j)) mulD := by
  intro F H x y dx dy z Q s hx hy e k
  unfold mulD at e
  split at e
  · split at e
    · rename_i h
      cases e
      cases hx.int; cases hy.int
      refine ⟨_, _, rfl, rfl, ?_, k _ F H (.refl s) (.int _)⟩
      exact wide_mul (a := 2000) (b := 2000) h.1 h.2 (by decide) (by decide) (by decide)
    · cases e
  · cases e
noncomputable def modD : PyData → PyData → Option PyData
  | .int i, .int j => if 0 < j then some (.int (i % j)) else none
  | _, _ => none
theorem ok_modD : OpOk K (rI (fun _ j => 0 < j) fun i j => .int (i % j)) modD := by
  intro F H x y dx dy z Q s hx hy e k
  unfold modD at e
  split at e
  · split at e
    · rename_i h
      cases e
      cases hx.int; cases hy.int
      exact ⟨_, _, rfl, rfl, h, k _ F H (.refl s) (.int _)⟩
    · cases e
  · cases e
noncomputable def fdivD : PyData → PyData → Option PyData
  | .int i, .int j => if 0 < j ∧ j.natAbs < lim then some (.int (i / j)) else none
  | _, _ => none
theorem ok_fdivD : OpOk K (rI CDivW fun i j => .int (i / j)) fdivD := by
  intro F H x y dx dy z Q s hx hy e k
  unfold fdivD at e
  split at e
  · split at e
    · rename_i h
      cases e
      cases hx.int; cases hy.int
      exact ⟨_, _, rfl, rfl, wide_div (b := 2000) h.1 h.2 (by decide) (by decide), k _ F H (.refl s) (.int _)⟩
    · cases e
  · cases e
noncomputable def powD : PyData → PyData → Option PyData
  | .int i, .int j => if 0 ≤ j ∧ j ≤ 1000 ∧ i.natAbs < 1000000 then some (.int (i ^ j.toNat)) else none
  | _, _ => none
theorem ok_powD : OpOk K (rI CPow fun i j => .int (i ^ j.toNat)) powD := by
  intro F H x y dx dy z Q s hx hy e k
  unfold powD at e
  split at e
  · split at e
    · rename_i h
      cases e
      cases hx.int; cases hy.int
      exact ⟨_, _, rfl, rfl, ⟨h.1, by omega, Nat.lt_trans h.2.2 (by decide)⟩, k _ F H (.refl s) (.int _)⟩
    · cases e
  · cases e
variable {fa fb fc : M Rv} {a b c : Expr} {pos : Pos}
theorem ve_add (ha : VE X T1 W a fa) (hb : VE X T2 W b fb) : VE X (T1 ++ T2) W (.BinOp a .Add b pos) (cBin addD fa fb) := ve_bin op_addD ok_addD ha hb
theorem ve_sub (ha : VE X T1 W a fa) (hb : VE X T2 W b fb) : VE X (T1 ++ T2) W (.BinOp a .Sub b pos) (cBin subtD fa fb) := ve_bin op_sub ok_subtD ha hb
theorem ve_mul (ha : VE X T1 W a fa) (hb : VE X T2 W b fb) : VE X (T1 ++ T2) W (.BinOp a .Mult b pos) (cBin mulD fa fb) := ve_bin op_mulW ok_mulD ha hb
theorem ve_mod (ha : VE X T1 W a fa) (hb : VE X T2 W b fb) : VE X (T1 ++ T2) W (.BinOp a .Mod b pos) (cBin modD fa fb) := ve_bin op_mod ok_modD ha hb
theorem ve_fdiv (ha : VE X T1 W a fa) (hb : VE X T2 W b fb) : VE X (T1 ++ T2) W (.BinOp a .FloorDiv b pos) (cBin fdivD fa fb) := ve_bin op_fdivW ok_fdivD ha hb
theorem ve_pow (ha : VE X T1 W a fa) (hb : VE X T2 W b fb) : VE X (T1 ++ T2) W (.BinOp a .Pow b pos) (cBin powD fa fb) := ve_bin op_pow ok_powD ha hb
noncomputable def cNeg (f : M Rv) : M Rv := bnd f fun x => fun ρ => match x with
  | .d (.int i) => some (.ok (.d (.int (-i))) ρ)
  | _ => none
noncomputable def icmp (p : Int → Int → Bool) : PyData → PyData → Option Bool
  | .int i, .int j => some (p i j)
  | _, _ => none
theorem ok_icmp {p : Int → Int → Bool} : OpOkD K (rI0 fun i j => .bl (p i j)) (icmp p) := by
  intro H x y dx dy z Q hx hy e k
  unfold icmp at e
  split at e
  · cases e
    cases hx; cases hy
    exact ⟨_, _, rfl, rfl, k⟩
  · cases e
noncomputable abbrev ltD := icmp fun i j => decide (i < j)
noncomputable abbrev leD := icmp fun i j => decide (i ≤ j)
noncomputable abbrev gtD := icmp fun i j => decide (j < i)
noncomputable abbrev geD := icmp fun i j => decide (j ≤ i)
noncomputable def eqD (d e : PyData) : Option Bool := if SeqAt.shaped d && SeqAt.shaped e then some (PyData.eqv d e) else none
noncomputable def neD (d e : PyData) : Option Bool := if SeqAt.shaped d && SeqAt.shaped e then some (!PyData.eqv d e) else none
theorem ok_eqD : OpOkD K (rEqD K) eqD := by
  intro H x y dx dy z Q hx hy e k
  unfold eqD at e
  split at e
  · rename_i h
    cases e
    rw [Bool.and_eq_true] at h
    exact ⟨dx, dy, dq_dp _ _ (SeqAt.canLay_of_shaped h.1) hx, dq_dp _ _ (SeqAt.canLay_of_shaped h.2) hy, h.1, h.2, k⟩
  · cases e
theorem ok_neD : OpOkD K (rNeD K) neD := by
  intro H x y dx dy z Q hx hy e k
  unfold neD at e
  split at e
  · rename_i h
    cases e
    rw [Bool.and_eq_true] at h
    exact ⟨dx, dy, dq_dp _ _ (SeqAt.canLay_of_shaped h.1) hx, dq_dp _ _ (SeqAt.canLay_of_shaped h.2) hy, h.1, h.2, k⟩
  · cases e
noncomputable def flatD : PyData → Bool
  | .none => true
  | .bool _ => true
  | .int _ => true
  | .str _ => true
  | _ => false
theorem flatD_ok {H : Hp} {v : V} {d : PyData} (h : Dq K H v d) (f : flatD d = true) : flatV v = true := by
  cases h <;> first | rfl | (exact absurd (show false = true from f) Bool.false_ne_true)
theorem eqV_ok {H : Hp} {v w : V} {d e : PyData} (h : Dq K H v d) (h' : Dq K H w e) (f : flatD d = true) (f' : flatD e = true) : eqV v w = PyData.eqv d e := by
  cases h <;> cases h' <;> first | (exact absurd (show false = true from f) Bool.false_ne_true) | (exact absurd (show false = true from f') Bool.false_ne_true) | rfl | simp [eqV, PyData.eqv]
theorem flat_all {H : Hp} : ∀ {vs : List V} {ds : List PyData}, DqAll K H vs ds → ds.all flatD = true → vs.all flatV = true
  | _, _, .nil, _ => rfl
  | _, _, .cons h t, f => by
    rw [List.all_cons, Bool.and_eq_true] at f ⊢
    exact ⟨flatD_ok h f.1, flat_all t f.2⟩
theorem inV_ok {H : Hp} {v : V} {d : PyData} (h : Dq K H v d) (f : flatD d = true) : ∀ {vs : List V} {ds : List PyData}, DqAll K H vs ds → ds.all flatD = true → inV v vs = ds.any fun z => PyData.eqv z d
  | _, _, .nil, _ => rfl
  | _, _, .cons h1 t, f1 => by
    rw [List.all_cons, Bool.and_eq_true] at f1
    have := inV_ok h f t f1.2
    unfold inV at this ⊢
    rw [List.any_cons, List.any_cons, this, eqV_ok h1 h f1.1 f]
noncomputable def inD (d c : PyData) : Option Bool := match c with
  | .list ds => if SeqAt.shaped d && SeqAt.shaped (.list ds) then some (ds.any fun z => PyData.eqv z d) else none
  | .tuple ds => if flatD d && ds.all flatD then some (ds.any fun z => PyData.eqv z d) else none
  | .str y => (match d with
    | .str x => some (!(Builtin.Str.occurrences y x 0 y.length 1).isEmpty)
    | _ => none)
  | _ => none
noncomputable def notInD (d c : PyData) : Option Bool := (inD d c).map (!·)
noncomputable def rInA (K : Fg) : R2 := fun x y H Q => (rInD K x y H Q ∨ rIn K false x y H Q) ∨ (∃ i j, x = .str i ∧ y = .str j ∧ Q (.bl (!(Builtin.Str.occurrences j i 0 j.length 1).isEmpty)) H)
noncomputable def rNotInA (K : Fg) : R2 := fun x y H Q => (rNotInD K x y H Q ∨ rIn K true x y H Q) ∨ (∃ i j, x = .str i ∧ y = .str j ∧ Q (.bl (!(!(Builtin.Str.occurrences j i 0 j.length 1).isEmpty))) H)
theorem op_inA (hu : X.A.units + 65 < cLine) : OpR X (compareOp .In) (rInA X.K) := opr_or (opr_or (op_inD hu) op_in_seq) op_in_str
theorem op_notInA (hu : X.A.units + 65 < cLine) : OpR X (compareOp .NotIn) (rNotInA X.K) := opr_or (opr_or (op_notInD hu) op_notIn_seq) op_notin_str
theorem ok_inD : OpOkD K (rInA K) inD := by
  intro H x y dx dy z Q hx hy e k
  unfold inD at e
  split at e
  · split at e
    · rename_i h
      cases e
      rw [Bool.and_eq_true] at h
      exact .inl (.inl ⟨dx, _, dq_dp _ _ (SeqAt.canLay_of_shaped h.1) hx, dq_dp _ _ (SeqAt.canLay_of_shaped h.2) hy, h.1, h.2, k⟩)
    · cases e
  · split at e
    · rename_i h
      cases e
      rw [Bool.and_eq_true] at h
      cases hy with
      | tups hs ha =>
        refine .inl (.inr ⟨_, _, rfl, .inr hs.sq, flatD_ok hx h.1, flat_all ha h.2, ?_⟩)
        simp only [Bool.false_eq_true, if_false]
        rw [inV_ok hx h.1 ha h.2]
        exact k
    · cases e
  · split at e
    · cases e
      cases hx; cases hy
      exact .inr ⟨_, _, rfl, rfl, k⟩
    · cases e
  · cases e
theorem ok_notInD : OpOkD K (rNotInA K) notInD := by
  intro H x y dx dy z Q hx hy e k
  unfold notInD at e
  cases q : inD dx dy with
  | none => rw [q] at e; cases e
  | some b =>
    rw [q] at e
    cases e
    unfold inD at q
    split at q
    · split at q
      · rename_i h
        cases q
        rw [Bool.and_eq_true] at h
        exact .inl (.inl ⟨dx, _, dq_dp _ _ (SeqAt.canLay_of_shaped h.1) hx, dq_dp _ _ (SeqAt.canLay_of_shaped h.2) hy, h.1, h.2, k⟩)
      · cases q
    · split at q
      · rename_i h
        cases q
        rw [Bool.and_eq_true] at h
        cases hy with
        | tups hs ha =>
          refine .inl (.inr ⟨_, _, rfl, .inr hs.sq, flatD_ok hx h.1, flat_all ha h.2, ?_⟩)
          simp only [if_true]
          rw [inV_ok hx h.1 ha h.2]
          exact k
      · cases q
    · split at q
      · cases q
        cases hx; cases hy
        exact .inr ⟨_, _, rfl, rfl, k⟩
      · cases q
    · cases q
noncomputable def isNon : PyData → Bool
  | .none => true
  | _ => false
noncomputable def isND (d e : PyData) : Option Bool := match e with
  | .none => some (isNon d)
  | _ => none
noncomputable def notND (d e : PyData) : Option Bool := (isND d e).map (!·)
theorem non_ok {H : Hp} {v : V} {d : PyData} (h : Dq K H v d) : decide (v = .non) = isNon d := by
  cases h <;> simp [isNon]
theorem ok_notND : OpOkD K (fun x y H Q => y = .non ∧ Q (.bl (!decide (x = .non))) H) notND := by
  intro H x y dx dy z Q hx hy e k
  unfold notND isND at e
  split at e
  · cases e
    cases hy
    refine ⟨rfl, ?_⟩
    rw [non_ok hx]
    exact k
  · cases e

section
variable {a : Expr} {fa : M Rv} {pos p : Pos} {x : Str} {t : Addr} {ds : List PyData}
noncomputable def KTup (K : Fg) (t : Addr) (ds : List PyData) : Prop := ∃ vs, (∀ F : Hp, SqT K F t vs) ∧ ∀ F : Hp, DqAll K F vs ds
end

noncomputable def subD : PyData → PyData → Option PyData
  | .list xs, .int i => atI xs i
  | .tuple xs, .int i => atI xs i
  | .str z, .int i => if small z.length then (atI z.cps.toList i).map fun c => .str ⟨#[c]⟩ else none
  | .dict kvs, .int i => (atI kvs i).map (·.1)
  | _, _ => none
theorem atI_map {α β : Type} {f : α → β} {xs : List α} {i : Int} : atI (xs.map f) i = (atI xs i).map f := by
  unfold atI
  rw [List.length_map]
  cases ixN xs.length i with
  | none => rfl
  | some j => simp
theorem atI_ok {F : Hp} {vs : List V} {ds : List PyData} {i : Int} {d : PyData} (h : DqAll K F vs ds) (e : atI ds i = some d) : ∃ v, atI vs i = some v ∧ Dq K F v d := by
  unfold atI at e ⊢
  rw [dqAll_len h]
  cases q : ixN ds.length i with
  | none => rw [q] at e; cases e
  | some j =>
    rw [q] at e
    exact dqAll_get h e
theorem ok_subD : OpOk K (rIx K) subD := by
  intro F H x y dx dy z Q s hx hy e k
  unfold subD at e
  split at e
  · obtain ⟨a, vs, rfl, h1, h2⟩ := hx.list s
    cases hy.int
    obtain ⟨v, e1, e2⟩ := atI_ok h2 e
    exact .inl ⟨a, vs, _, v, rfl, rfl, .inl h1, e1, k _ F H (.refl s) e2⟩
  · obtain ⟨a, vs, rfl, h1, h2, _⟩ := hx.tup s
    cases hy.int
    obtain ⟨v, e1, e2⟩ := atI_ok h2 e
    exact .inr (.inl ⟨a, vs, _, v, rfl, rfl, h1, e1, k _ F H (.refl s) e2⟩)
  · split at e
    · rename_i z' i hz
      cases hx.str; cases hy.int
      cases q : atI z'.cps.toList i with
      | none => rw [q] at e; cases e
      | some c =>
        rw [q] at e; cases e
        exact .inr (.inr ⟨_, _, c, rfl, rfl, small_iff.mp hz, q, k _ F H (.refl s) (.str _)⟩)
    · cases e
  · rename_i kvs i
    rcases hx with hx | ⟨_, _, _, _, z', _⟩
    · cases hx with
      | @scr a ns hs =>
        cases hy.int
        rw [atI_map] at e
        cases q : atI ns i with
        | none => rw [q] at e; cases e
        | some n =>
          rw [q] at e; cases e
          exact .inl ⟨a, _, i, .int n, rfl, rfl, s.seq hs, by rw [atI_map, q]; rfl, k _ F H (.refl s) (.int _)⟩
    · cases z'
  · cases e
theorem ve_ix (ha : VE X T1 W a fa) (hb : VE X T2 W b fb) (hs : PlainIx b := by intro _ _; rfl) : VE X (T1 ++ T2) W (.Subscript a b pos) (cBin subD fa fb) :=
  pe_imp (pe_ix ix_seq ha hb hs) fun σ H Q h => tv_bin ok_subD h
noncomputable def cutL {α : Type} (xs : List α) (lo hi : Option Int) : List α := (xs.drop (HT.sIx xs.length 0 lo)).take (HT.sIx xs.length xs.length hi - HT.sIx xs.length 0 lo)
theorem cut_ok {F : Hp} {vs : List V} {ds : List PyData} (h : DqAll K F vs ds) (lo hi : Option Int) : DqAll K F (cutV vs lo hi) (cutL ds lo hi) := by
  unfold cutV cutL
  rw [dqAll_len h]
  exact dqAll_take _ (dqAll_drop _ h)
noncomputable def cutD (d : PyData) (lo hi : Option Int) : Option PyData := match d with
  | .list xs => some (.list (cutL xs lo hi))
  | .tuple xs => some (.tuple (cutL xs lo hi))
  | .str z => if small z.length then some (.str (cutS z lo hi)) else none
  | _ => none
noncomputable def rSlD (K : Fg) : V → Option Int → Option Int → Hp → VK → Prop := fun x lo hi H Q => (rSlL K x lo hi H Q ∨ rSlA K x lo hi H Q) ∨ rSlS x lo hi H Q
theorem sl_D : SlR X (rSlD X.K) := SlR.or (SlR.or sl_list sl_tupA) sl_str
theorem ok_cutD {F H : Hp} {x : V} {dx z : PyData} {lo hi : Option Int} {Q : VK} (s : Same F H) (hx : DpS K F H x dx) (e : cutD dx lo hi = some z) (k : ∀ v F' H', Grow F H F' H' → Dq K F' v z → Q v H') : rSlD K x lo hi H Q := by
  unfold cutD at e
  split at e
  · cases e
    obtain ⟨a, vs, rfl, h1, h2⟩ := hx.list s
    refine .inl (.inl ⟨a, vs, rfl, .inl h1, fun p np => ?_⟩)
    exact k _ _ _ (.new _ s np) (.lst (.inl upd_same) (dqAll_mono (same_upd (s.free np)) _ _ (cut_ok h2 lo hi)))
  · cases e
    obtain ⟨a, vs, rfl, h1, h2, h3⟩ := hx.tup s
    refine .inl (.inr ⟨a, vs, rfl, h1, fun w => ?_, fun _ p np => ?_⟩)
    · rename_i xs
      have : cutL xs lo hi = xs := by
        unfold cutL
        rw [dqAll_len h2] at w
        rw [w.1, w.2]
        simp
      rw [this] at k
      exact k _ F H (.refl s) h3
    · exact k _ _ _ (.new _ s np) (.tup upd_same (dqAll_mono (same_upd (s.free np)) _ _ (cut_ok h2 lo hi)))
  · split at e
    · rename_i hz
      cases e
      cases hx.str
      exact .inr ⟨_, rfl, small_iff.mp hz, k _ F H (.refl s) (.str _)⟩
    · cases e
  · cases e
noncomputable def rlO (K : Fg) : Rl K (Option Int) (Option Int) := ⟨fun _ _ _ _ _ _ _ v r => v = r, fun _ h => h⟩
noncomputable def VO (X : Cx) (T : List Nat) (W : WV) (e : Option Expr) (f : M (Option Int)) : Prop := PO X e (fun σ H Q => TVg T W (rlO X.K) f σ H Q)
theorem po_imp {e : Option Expr} {t t' : TO} (h : PO X e t) (i : ∀ σ H Q, t' σ H Q → t σ H Q) : PO X e t' := ⟨fun pins s σ H Q I q => h.run pins s σ H Q I (i σ H Q q)⟩
noncomputable def oNone : M (Option Int) := ret none
noncomputable def oSome (f : M Rv) : M (Option Int) := bnd f fun x => fun ρ => match x with
  | .d (.int i) => some (.ok (some i) ρ)
  | _ => none
theorem vo_none : VO X [] W none oNone := po_imp po_none fun σ H Q ⟨F, ρ, fp, o, E, e, P⟩ => by
  cases ok_inj e
  exact P _ H F fp (.refl E) rfl
theorem vo_some (ha : VE X T W a fa) : VO X T W (some a) (oSome fa) := po_imp (po_some ha) fun σ H Q ⟨F, ρ, fp, o, E, e, P⟩ => by
  refine tv_bnd E e P (fun i hi => hi) fun x ρ1 v H1 F1 fp1 s1 r1 e1 P1 => ?_
  split at e1
  · cases ok_inj e1
    cases r1
    exact ⟨_, rfl, P1 _ H1 F1 fp1 (.refl s1.env) rfl⟩
  · cases e1
noncomputable def cut1 (x : Rv) (lo hi : Option Int) : M Rv := fun ρ => match derS ρ x with
  | some d => (match cutD d lo hi with
    | some z => some (.ok (.d z) ρ)
    | none => none)
  | none => none
noncomputable def cCut (f : M Rv) (fl fh : M (Option Int)) : M Rv := bnd f fun x => bnd fl fun lo => bnd fh fun hi => cut1 x lo hi
variable {fl fh : M (Option Int)} {lo hi : Option Expr} {p2 : Pos}
theorem ve_cut (ha : VE X T1 W a fa) (hl : VO X T2 W lo fl) (hh : VO X T3 W hi fh) : VE X (T1 ++ T2 ++ T3) W (.Subscript a (.Slice lo hi none p2) pos) (cCut fa fl fh) :=
  pe_imp (pe_slice sl_D ha hl hh) fun σ H Q ⟨F, ρ, fp, o, E, e, P⟩ => by
    refine tv_bnd E e P (fun i hi => List.mem_append_left _ (List.mem_append_left _ hi)) fun x ρ1 v H1 F1 fp1 s1 r1 e1 P1 => ?_
    refine tv_bnd s1.env e1 P1 (fun i hi => List.mem_append_left _ (List.mem_append_right _ hi)) fun l ρ2 l' H2 F2 fp2 s2 r2 e2 P2 => ?_
    refine tv_bnd s2.env e2 P2 (fun i hi => List.mem_append_right _ hi) fun u ρ3 u' H3 F3 fp3 s3 r3 e3 P3 => ?_
    have r2 : l' = l := r2
    have r3 : u' = u := r3
    subst r2 r3
    unfold cut1 at e3
    split at e3
    · rename_i d hd
      split at e3
      · rename_i z hz
        cases ok_inj e3
        exact ok_cutD s3.env.sub (derS_ok s3.env (RvOk.step s3 (RvOk.step s2 r1)) hd) hz fun v' F4 H4 gr dp => P3 v' H4 F4 fp3 (gr.step s3.env) dp
      · cases e3
    · cases e3

inductive DpSs (K : Fg) (F H : Hp) : List V → List PyData → Prop
  | nil : DpSs K F H [] []
  | cons {v vs d ds} : DpS K F H v d → DpSs K F H vs ds → DpSs K F H (v :: vs) (d :: ds)
noncomputable def derSs (ρ : Rho) : List Rv → Option (List PyData)
  | [] => some []
  | r :: rs => match derS ρ r, derSs ρ rs with
    | some d, some ds => some (d :: ds)
    | _, _ => none
theorem derSs_ok {F H : Hp} {σ : Sg} {ρ : Rho} {fp : FP} (E : EnvOk K F H σ ρ fp) : ∀ {vs : List V} {rs : List Rv} {ds : List PyData}, RvsOk K F σ ρ vs rs → derSs ρ rs = some ds → DpSs K F H vs ds
  | _, _, _, .nil, e => by simp only [derSs] at e; cases e; exact .nil
  | _, r :: rs, _, .cons h t, e => by
    simp only [derSs] at e
    split at e
    · rename_i d ds hd hds
      cases e
      exact .cons (derS_ok E h hd) (derSs_ok E t hds)
    · cases e
noncomputable def CallOk (K : Fg) (r : List V → Hp → VK → Prop) (g : List PyData → Option PyData) : Prop := ∀ F H vs ds z Q, Same F H → DpSs K F H vs ds → g ds = some z → (∀ v F' H', Grow F H F' H' → Dq K F' v z → Q v H') → r vs H Q
noncomputable def call1 (g : List PyData → Option PyData) (rs : List Rv) : M Rv := fun ρ => match derSs ρ rs with
  | some ds => (match g ds with
    | some z => some (.ok (.d z) ρ)
    | none => none)
  | none => none
noncomputable def cCall (g : List PyData → Option PyData) (fs : M (List Rv)) : M Rv := bnd fs (call1 g)
variable {g : List PyData → Option PyData} {fs : M (List Rv)} {rc : List V → Hp → VK → Prop} {es : List Expr} {e : Expr} {id Ty : String} {x : Str} {p : Pos}
theorem tv_call {σ : Sg} {H : Hp} {Q : VK} (hg : CallOk X.K rc g) (h : tV X.K T W (cCall g fs) σ H Q) : tCB rc (tVA X.K T W fs) σ H Q := by
  obtain ⟨F, ρ, fp, o, E, e, P⟩ := h
  refine tv_bnd E e P (fun i hi => hi) fun rs ρ1 vs H1 F1 fp1 s1 r1 e1 P1 => ?_
  unfold call1 at e1
  split at e1
  · rename_i ds hd
    split at e1
    · rename_i z hz
      cases ok_inj e1
      exact hg F1 H1 vs ds z Q s1.env.sub (derSs_ok s1.env r1 hd) hz fun v' F4 H4 gr dp => P1 v' H4 F4 fp1 (gr.step s1.env) dp
    · cases e1
  · cases e1
theorem ve_callB (hc : CallR X (.builtin id) rc) (hk : CallOk X.K rc g) (hg : Gl X x) (hm : X.mg x = none) (hv : bootBuiltins x = some (.builtin id)) (ha : VA X T W (e :: es) fs) (hn : x ≠ "__name__" := by decide) (hdb : (x == ("__debug__" : Str)) = false := by decide)
    (he : starEach (e :: es) X.env = (false, eval e X.env) :: starEach es X.env := by rfl) (hpl : (backTo pos (starEach es X.env)).any (·.1) = false := by rfl) : VE X T W (.Call (.Name x p) (e :: es) [] pos) (cCall g fs) :=
  pe_imp (pe_callB hc hg hm hv ha hn hdb he hpl) fun σ H Q h => tv_call hk h
theorem ve_callTy (hc : CallR X (.type Ty) rc) (hk : CallOk X.K rc g) (hg : Gl X x) (hm : X.mg x = none) (hv : bootBuiltins x = some (.type Ty)) (ha : VA X T W (e :: es) fs) (hn : x ≠ "__name__" := by decide) (hdb : (x == ("__debug__" : Str)) = false := by decide)
    (he : starEach (e :: es) X.env = (false, eval e X.env) :: starEach es X.env := by rfl) (hpl : (backTo pos (starEach es X.env)).any (·.1) = false := by rfl) : VE X T W (.Call (.Name x p) (e :: es) [] pos) (cCall g fs) :=
  pe_imp (pe_callTy hc hg hm hv ha hn hdb he hpl) fun σ H Q h => tv_call hk h
noncomputable def lenD : List PyData → Option PyData
  | [.list xs] => some (.int xs.length)
  | [.tuple xs] => some (.int xs.length)
  | [.str z] => if small z.length then some (.int z.length) else none
  | [.dict kvs] => some (.int kvs.length)
  | _ => none
theorem ok_lenD : CallOk K (fun xs H Q => ∃ x n, xs = [x] ∧ LenV K x H n ∧ Q (.int n) H) lenD := by
  intro F H vs ds z Q s h e k
  unfold lenD at e
  split at e
  · cases h with
    | cons h t =>
      cases t
      cases e
      obtain ⟨a, ws, rfl, h1, h2⟩ := h.list s
      exact ⟨_, ws.length, rfl, .inl ⟨ws, .inl h1, rfl⟩, k _ F H (.refl s) (by rw [dqAll_len h2]; exact .int _)⟩
  · cases h with
    | cons h t =>
      cases t
      cases e
      obtain ⟨a, ws, rfl, h1, h2, _⟩ := h.tup s
      exact ⟨_, ws.length, rfl, .inr ⟨ws, h1, rfl⟩, k _ F H (.refl s) (by rw [dqAll_len h2]; exact .int _)⟩
  · cases h with
    | cons h t =>
      cases t
      split at e
      · rename_i hz
        cases e
        cases h.str
        exact ⟨_, _, rfl, ⟨small_iff.mp hz, rfl⟩, k _ F H (.refl s) (.int _)⟩
      · cases e
  · cases h with
    | cons h t =>
      cases t
      cases e
      rcases h with h | ⟨_, _, _, _, z', _⟩
      · cases h with
        | @scr a ns hs => exact ⟨_, _, rfl, .inl ⟨_, s.seq hs, rfl⟩, k _ F H (.refl s) (by rw [List.length_map, List.length_map]; exact .int _)⟩
      · cases z'
  · cases e
noncomputable def absD : List PyData → Option PyData
  | [.int i] => some (.int (if i < 0 then -i else i))
  | _ => none
noncomputable def min2D : List PyData → Option PyData
  | [.int i, .int j] => some (.int (if j < i then j else i))
  | _ => none
noncomputable def max2D : List PyData → Option PyData
  | [.int i, .int j] => some (.int (if j > i then j else i))
  | _ => none
theorem ok_min2D : CallOk K (fun xs H Q => ∃ i j, xs = [.int i, .int j] ∧ Q (.int (if j < i then j else i)) H) min2D := by
  intro F H vs ds z Q s h e k
  unfold min2D at e
  split at e
  · cases h with
    | cons h t =>
      cases t with
      | cons h2 t =>
        cases t
        cases e
        cases h.int; cases h2.int
        exact ⟨_, _, rfl, k _ F H (.refl s) (.int _)⟩
  · cases e
noncomputable def intD : List PyData → Option PyData
  | [.int i] => some (.int i)
  | [.bool b] => some (.int (if b then 1 else 0))
  | _ => none
theorem ok_intD : CallOk K (fun xs H Q => (∃ i, xs = [.int i] ∧ Q (.int i) H) ∨ ∃ k, xs = [.bl k] ∧ Q (.int (if k then 1 else 0)) H) intD := by
  intro F H vs ds z Q s h e k
  unfold intD at e
  split at e
  · cases h with
    | cons h t =>
      cases t
      cases e
      cases h.int
      exact .inl ⟨_, rfl, k _ F H (.refl s) (.int _)⟩
  · cases h with
    | cons h t =>
      cases t
      cases e
      cases h.bl
      exact .inr ⟨_, rfl, k _ F H (.refl s) (.int _)⟩
  · cases e
noncomputable def tupleD : List PyData → Option PyData
  | [.list xs] => some (.tuple xs)
  | [.tuple xs] => some (.tuple xs)
  | _ => none
noncomputable def listD : List PyData → Option PyData
  | [.list xs] => some (.list xs)
  | [.tuple xs] => some (.list xs)
  | _ => none
theorem ok_listD : CallOk K (fun xs H Q => ∃ p ys, xs = [.ref p] ∧ (SqL K H p ys ∨ SqT K H p ys) ∧ ∀ l, H l = none → Q (.ref l) (upd H l (.lst ys))) listD := by
  intro F H vs ds z Q s h e k
  unfold listD at e
  split at e
  · cases h with
    | cons h t =>
      cases t
      cases e
      obtain ⟨a, ws, rfl, h1, h2⟩ := h.list s
      exact ⟨a, ws, rfl, .inl (.inl h1), fun l nl => k _ _ _ (.new _ s nl) (.lst (.inl upd_same) (dqAll_mono (same_upd (s.free nl)) _ _ h2))⟩
  · cases h with
    | cons h t =>
      cases t
      cases e
      obtain ⟨a, ws, rfl, h1, h2, h3⟩ := h.tup s
      exact ⟨a, ws, rfl, .inr h1, fun l nl => k _ _ _ (.new _ s nl) (.lst (.inl upd_same) (dqAll_mono (same_upd (s.free nl)) _ _ h2))⟩
  · cases e

noncomputable def tyD : PyData → String
  | .none => "NoneType"
  | .bool _ => "bool"
  | .int _ => "int"
  | .str _ => "str"
  | .list _ => "list"
  | .tuple _ => "tuple"
  | .dict _ => "dict"
theorem tyX_of {H : Hp} {v : V} {d : PyData} (h : Dq K H v d) (hd : ∀ kvs, d ≠ .dict kvs) : TyX K H v (.type (tyD d)) := by
  cases h with
  | non => exact .base .non
  | bl b => exact .base (.bl b)
  | int b => exact .base (.int b)
  | str b => exact .base (.str b)
  | lst hs _ =>
    rcases hs with hs | ⟨o, hs⟩
    · exact .base (.lst hs)
    · exact .base (.frz hs)
  | tups hs _ =>
    rcases hs with hs | ⟨_, o, its, n, h1, h2, _⟩
    · exact .base (.tup hs)
    · exact .kTuple h1 h2
  | scr _ => exact absurd rfl (hd _)
inductive BT where
  | int | bool | str | tuple | list
noncomputable def BT.nm : BT → String
  | .int => "int"
  | .bool => "bool"
  | .str => "str"
  | .tuple => "tuple"
  | .list => "list"
noncomputable def isiD (B : BT) (d : PyData) : Option Bool := match d with
  | .none => some false
  | .bool _ => some (match B with | .int => true | .bool => true | _ => false)
  | .int _ => some (match B with | .int => true | _ => false)
  | .str _ => some (match B with | .str => true | _ => false)
  | .list _ => some (match B with | .list => true | _ => false)
  | .tuple _ => some (match B with | .tuple => true | _ => false)
  | .dict _ => none
theorem isiD_ok {B : BT} {d : PyData} {b : Bool} (h : isiD B d = some b) : (∀ kvs, d ≠ .dict kvs) ∧ PySem.W.kitOne K (.type (tyD d)) (.type B.nm) = some b := by
  cases d
  case dict kvs => cases h
  all_goals
    refine ⟨(fun kvs z => nomatch z), ?_⟩
    cases B
    all_goals
      cases h
      simp only [tyD, BT.nm]
      exact kit_ty (by decide +kernel)
noncomputable def cIsi (B : BT) (f : M Rv) : M Rv := bnd f fun x => fun ρ => match der ρ x with
  | some d => (match isiD B d with
    | some b => some (.ok (.d (.bool b)) ρ)
    | none => none)
  | none => none
theorem ve_isi {B : BT} {y : Str} {p' : Pos} (ha : VE X T W a fa) (hg : Gl X "isinstance") (hm : X.mg "isinstance" = none) (hg' : Gl X y) (hm' : X.mg y = none) (hv' : bootBuiltins y = some (.type B.nm)) (hn' : y ≠ "__name__" := by decide) (hd' : (y == ("__debug__" : Str)) = false := by decide)
    (h1 : starEach [a, .Name y p'] X.env = (false, eval a X.env) :: starEach [.Name y p'] X.env := by rfl) (h2 : (backTo pos (starEach [.Name y p'] X.env)).any (·.1) = false := by rfl) (h3 : starEach [.Name y p'] X.env = (false, eval (.Name y p') X.env) :: starEach [] X.env := by rfl) :
    VE X T W (.Call (.Name "isinstance" p) [a, .Name y p'] [] pos) (cIsi B fa) :=
  pe_imp (pe_callB call_isi hg hm (by decide +kernel) (pa_cons ha (pa_cons (pe_bltn (v := .ty B.nm) hg' hm' hv' rfl hn' hd') pa_nil h3) h1) (by decide) (by decide) h1 h2) fun σ H Q ⟨F, ρ, fp, o, E, e, P⟩ => by
    refine tv_bnd E e P (fun i hi => hi) fun x ρ1 v H1 F1 fp1 s1 r1 e1 P1 => ?_
    split at e1
    · rename_i d hd
      split at e1
      · rename_i b hb
        cases ok_inj e1
        have q := der_ok s1.env r1 hd
        obtain ⟨hd1, hd2⟩ := isiD_ok (K := X.K) hb
        exact ⟨v, .ty B.nm, _, _, b, rfl, .ty B.nm, tyX_of q hd1, hd2, P1 _ H1 F1 fp1 (.refl s1.env) (.bl b)⟩
      · cases e1
    · cases e1
end
end VL

end

section
set_option Elab.async false
set_option linter.all false
set_option maxRecDepth 100000
namespace VL
open PySem PySem.Spec PyProof.Rows L2

inductive Out where
  | nx (ρ : Rho)
  | rt (t : Tr) (ρ : Rho)
  | bk (ρ : Rho)
  | ct (ρ : Rho)
  | ex (c : Str) (ρ : Rho)
noncomputable abbrev MS := Rho → Option Out
noncomputable def SPst (K : Fg) (W : WV) (F H : Hp) (σ : Sg) (ρ : Rho) (fp : FP) (D : Ends) : Out → Prop
  | .nx ρ' => ∀ σ' H' F' fp', Step K F H σ ρ fp F' H' σ' ρ' fp' → D.nx σ' H'
  | .bk ρ' => ∀ σ' H' F' fp', Step K F H σ ρ fp F' H' σ' ρ' fp' → D.bk σ' H'
  | .ct ρ' => ∀ σ' H' F' fp', Step K F H σ ρ fp F' H' σ' ρ' fp' → D.ct σ' H'
  | .rt t ρ' => ∀ v A σ' H' F' fp', Step K F H σ ρ fp F' H' σ' ρ' fp' → NewOk K H fp F' H' fp' v t A → D.rt v H'
  | .ex c ρ' => ∀ σ' H' F' fp', Step K F H σ ρ fp F' H' σ' ρ' fp' → W c σ' H'
theorem NewOk.back {K : Fg} {F H F1 H1 F2 H2 : Hp} {σ σ1 : Sg} {ρ ρ1 : Rho} {fp fp1 fp2 : FP} {v : V} {t : Tr} {A : List Addr} (s : Step K F H σ ρ fp F1 H1 σ1 ρ1 fp1) (h : NewOk K H1 fp1 F2 H2 fp2 v t A) : NewOk K H fp F2 H2 fp2 v t A :=
  ⟨h.ok, h.nd, fun b hb => (h.new b hb).elim (fun z => .inl (s.dom b z)) fun z => (s.own b z).symm, h.out⟩
theorem SPst.step {K : Fg} {W : WV} {F H F1 H1 : Hp} {σ σ1 : Sg} {ρ ρ1 : Rho} {fp fp1 : FP} {D : Ends} (s : Step K F H σ ρ fp F1 H1 σ1 ρ1 fp1) : ∀ {o : Out}, SPst K W F H σ ρ fp D o → SPst K W F1 H1 σ1 ρ1 fp1 D o
  | .nx _, h => fun σ' H' F' fp' e => h σ' H' F' fp' (s.trans e)
  | .bk _, h => fun σ' H' F' fp' e => h σ' H' F' fp' (s.trans e)
  | .ct _, h => fun σ' H' F' fp' e => h σ' H' F' fp' (s.trans e)
  | .rt _ _, h => fun v A σ' H' F' fp' e n => h v A σ' H' F' fp' (s.trans e) (n.back s)
  | .ex _ _, h => fun σ' H' F' fp' e => h σ' H' F' fp' (s.trans e)
noncomputable def tS (K : Fg) (W : WV) (g : MS) : TS := fun D σ H => ∃ F ρ fp o, EnvOk K F H σ ρ fp ∧ g ρ = some o ∧ SPst K W F H σ ρ fp D o
noncomputable def VS (X : Cx) (W : WV) (st : Stmt) (g : MS) : Prop := PS X st (tS X.K W g)
noncomputable def VSs (X : Cx) (W : WV) (st : List Stmt) (g : MS) : Prop := PSs X st (tS X.K W g)

section
variable {X : Cx} {T T1 T2 : List Nat} {W : WV} {K : Fg} {st : Stmt} {rest : List Stmt} {g h : MS} {fa : M Rv} {fn : M Tr} {e : Expr} {pos : Pos}
noncomputable def sNil : MS := fun ρ => some (.nx ρ)
noncomputable def sSeq (g h : MS) : MS := fun ρ => match g ρ with
  | some (.nx ρ1) => h ρ1
  | o => o
theorem vss_nil : VSs X W [] sNil := pss_imp pss_nil fun D σ H ⟨F, ρ, fp, o, E, e, P⟩ => by
  cases (Option.some.inj e)
  exact P σ H F fp (.refl E)
theorem vss_cons (h1 : VS X W st g) (h2 : VSs X W rest h) : VSs X W (st :: rest) (sSeq g h) := pss_imp (pss_cons h1 h2) fun D σ H ⟨F, ρ, fp, o, E, e, P⟩ => by
  unfold sSeq at e
  cases q : g ρ with
  | none => rw [q] at e; cases e
  | some r =>
    rw [q] at e
    cases r with
    | nx ρ1 => exact ⟨F, ρ, fp, _, E, q, fun σ' H' F' fp' s => ⟨F', ρ1, fp', o, s.env, e, P.step s⟩⟩
    | rt t ρ1 => cases e; exact ⟨F, ρ, fp, _, E, q, P⟩
    | bk ρ1 => cases e; exact ⟨F, ρ, fp, _, E, q, P⟩
    | ct ρ1 => cases e; exact ⟨F, ρ, fp, _, E, q, P⟩
    | ex c ρ1 => cases e; exact ⟨F, ρ, fp, _, E, q, P⟩
theorem vss_one (h1 : VS X W st g) : VSs X W [st] g := pss_one h1
noncomputable def sE {α : Type} (f : M α) (k : α → MS) : MS := fun ρ => match f ρ with
  | some (.ok a ρ1) => k a ρ1
  | some (.ex c ρ1) => some (.ex c ρ1)
  | none => none
theorem tv_st {α β : Type} {R : Rl K α β} {f : M α} {k : α → MS} {F H : Hp} {σ : Sg} {ρ : Rho} {fp : FP} {o : Out} {D : Ends} {Q1 : β → Hp → Prop} (E : EnvOk K F H σ ρ fp) (e : sE f k ρ = some o) (P : SPst K W F H σ ρ fp D o)
    (hk : ∀ a ρ1 b H1 F1 fp1, EStep K T F H σ ρ fp F1 H1 ρ1 fp1 → R.r H fp F1 H1 fp1 σ ρ1 b a → k a ρ1 = some o → SPst K W F1 H1 σ ρ1 fp1 D o → Q1 b H1) : TVg T W R f σ H Q1 := by
  unfold sE at e
  cases q : f ρ with
  | none => rw [q] at e; cases e
  | some r =>
    rw [q] at e
    cases r with
    | ok a ρ1 => exact ⟨F, ρ, fp, _, E, q, fun b H1 F1 fp1 st r => hk a ρ1 b H1 F1 fp1 st r e (P.step st.st)⟩
    | ex c ρ1 => cases e; exact ⟨F, ρ, fp, _, E, q, fun H1 F1 fp1 st => P σ H1 F1 fp1 st.st⟩
noncomputable def sRet (f : M Tr) : MS := sE f fun t => fun ρ => some (.rt t ρ)
theorem vs_ret (h : VN X T W e fn) : VS X W (.Return (some e) pos) (sRet fn) := ps_imp (ps_ret h) fun D σ H ⟨F, ρ, fp, o, E, e, P⟩ => by
  refine tv_st E e P fun t ρ1 v H1 F1 fp1 s1 r1 e1 _ => ?_
  cases (Option.some.inj e1)
  obtain ⟨A, n⟩ := r1
  exact P v A σ H1 F1 fp1 s1.st n
noncomputable def sRetN : MS := fun ρ => some (.rt (.dat .none) ρ)
noncomputable def setSl (ρ : Rho) (i : Nat) (s : Sl) : Option Rho := match ρ[i]? with
  | some (.own .pin _) => none
  | some (.own .lock _) => none
  | some (.own (.bor _) _) => none
  | some _ => some (ρ.set i s)
  | none => none
theorem setSl_some {ρ ρ' : Rho} {i : Nat} {s : Sl} (h : setSl ρ i s = some ρ') : ρ' = ρ.set i s ∧ i < ρ.length ∧ (∀ m t, ρ[i]? = some (.own m t) → m.pn = false) ∧ (∀ t, ρ[i]? ≠ some (.own .lock t)) := by
  unfold setSl at h
  cases q : ρ[i]? with
  | none => rw [q] at h; cases h
  | some s0 =>
    have hi := (List.getElem?_eq_some_iff.mp q).1
    rw [q] at h
    cases s0 with
    | no => cases h; exact ⟨rfl, hi, (fun m t z => nomatch z), (fun t z => nomatch z)⟩
    | al _ _ => cases h; exact ⟨rfl, hi, (fun m t z => nomatch z), (fun t z => nomatch z)⟩
    | val d => cases h; exact ⟨rfl, hi, (fun m t z => nomatch z), (fun t z => nomatch z)⟩
    | own m t0 =>
      cases m with
      | free => cases h; exact ⟨rfl, hi, (fun m t z => by cases z; rfl), (fun t z => nomatch z)⟩
      | pin => cases h
      | lock => cases h
      | bor _ => cases h
noncomputable def fset (fp : FP) (i : Nat) (A : List Addr) : FP := fun j => if j = i then A else fp j
theorem sg_set {σ : Sg} {i : Nat} {v : Option V} (h : i < σ.length) : sg (σ.set i v) i = v := by
  unfold sg
  rw [List.getElem?_set_self h]
  rfl
theorem sg_set_ne {σ : Sg} {i j : Nat} {v : Option V} (h : i ≠ j) : sg (σ.set i v) j = sg σ j := by
  unfold sg
  rw [List.getElem?_set_ne h]
noncomputable def isOwn : Sl → Bool
  | .own _ _ => true
  | _ => false
noncomputable def plainSl : Sl → Bool
  | .al _ _ => false
  | .own (.bor _) _ => false
  | _ => true
theorem set_env {F H : Hp} {σ : Sg} {ρ : Rho} {fp : FP} {i : Nat} {v : V} {s : Sl} {A : List Addr} (E : EnvOk K F H σ ρ fp) (hi : i < ρ.length) (hs : SlOk K F H (some v) A s) (hn : A.Nodup) (ho : ∀ b ∈ A, ¬ Owns fp b) (ha : isOwn s = false → A = []) (hp : plainSl s = true := by rfl) :
    EnvOk K F H (σ.set i (some v)) (ρ.set i s) (fset fp i A) := by
  have hσ : i < σ.length := by rw [E.len]; exact hi
  refine ⟨E.sub, by rw [List.length_set, List.length_set]; exact E.len, fun j u hu => ?_, fun j hj => ?_, fun j => ?_, fun j l b h1 h2 => ?_, E.tb, E.al' (fun j k p h => ?_) fun k p t h => ?_⟩
  rotate_left 4
  · by_cases hji : i = j
    · subst hji
      rw [List.getElem?_set_self hi] at h
      cases h
      cases hp
    · rw [List.getElem?_set_ne hji] at h
      exact ⟨h, sg_set_ne hji⟩
  · by_cases hji : i = k
    · subst hji
      rw [List.getElem?_set_self hi] at h
      cases h
      cases hp
    · rw [List.getElem?_set_ne hji] at h
      exact ⟨h, sg_set_ne hji, fun _ _ => rfl⟩
  · by_cases hji : i = j
    · subst hji
      rw [List.getElem?_set_self hi] at hu
      cases hu
      rw [sg_set hσ]
      unfold fset
      rw [if_pos rfl]
      exact hs
    · rw [List.getElem?_set_ne hji] at hu
      rw [sg_set_ne hji]
      unfold fset
      rw [if_neg (Ne.symm hji)]
      exact E.sl j u hu
  · unfold fset
    by_cases hji : j = i
    · rw [if_pos hji]
      subst hji
      apply ha
      cases s with
      | own m t => exact absurd (List.getElem?_set_self hi) (hj m t)
      | _ => rfl
    · rw [if_neg hji]
      refine E.nil j fun m t z => hj m t ?_
      rw [List.getElem?_set_ne (Ne.symm hji)]
      exact z
  · unfold fset
    split
    · exact hn
    · exact E.nd j
  · unfold fset at h1 h2
    split at h1
    · split at h2
      · omega
      · exact absurd ⟨l, h2⟩ (ho b h1)
    · split at h2
      · exact absurd ⟨j, h1⟩ (ho b h2)
      · exact E.ap j l b h1 h2
theorem Owns.fset {fp : FP} {i : Nat} {A : List Addr} {b : Addr} (h : Owns (fset fp i A) b) : b ∈ A ∨ Owns fp b := by
  obtain ⟨j, h⟩ := h
  unfold VL.fset at h
  split at h
  · exact .inl h
  · exact .inr ⟨j, h⟩
theorem set_step {F H F1 H1 : Hp} {σ : Sg} {ρ ρ1 ρ2 : Rho} {fp fp1 : FP} {i : Nat} {v : V} {s : Sl} {A : List Addr} (s1 : Step K F H σ ρ fp F1 H1 σ ρ1 fp1) (hset : setSl ρ1 i s = some ρ2) (hs : SlOk K F1 H1 (some v) A s) (hn : A.Nodup)
    (ho : ∀ b ∈ A, ¬ Owns fp1 b) (ha : isOwn s = false → A = []) (hw : ∀ b ∈ A, H b = none ∨ Owns fp b) (hp : plainSl s = true := by rfl) : Step K F H σ ρ fp F1 H1 (σ.set i (some v)) ρ2 (fset fp1 i A) := by
  obtain ⟨rfl, hi, np, nl⟩ := setSl_some hset
  refine ⟨set_env s1.env hi hs hn ho ha hp, s1.fr, s1.nf, s1.dom, s1.frame, fun b hb => ?_, fun j m t hj hm => ?_, fun j t hj => ?_⟩
  · rcases hb.fset with z | z
    · exact (hw b z).symm
    · exact s1.own b z
  · obtain ⟨e1, m', t', h1, k1⟩ := s1.pin j m t hj hm
    have hji : i ≠ j := fun z => by subst z; rw [np m' t' h1] at k1; cases k1
    exact ⟨by rw [sg_set_ne hji], m', t', by rw [List.getElem?_set_ne hji]; exact h1, k1⟩
  · obtain ⟨e1, h1, f1, g1⟩ := s1.lock j t hj
    have hji : i ≠ j := fun z => by subst z; exact nl t h1
    refine ⟨by rw [sg_set_ne hji], by rw [List.getElem?_set_ne hji]; exact h1, ?_, g1⟩
    unfold fset
    rw [if_neg (Ne.symm hji)]
    exact f1
noncomputable def putD (i : Nat) (d : PyData) : MS := fun ρ => (setSl ρ i (.val d)).map .nx
noncomputable def sSet (i : Nat) (f : M Rv) : MS := sE f fun x => match x with
  | .d d => putD i d
  | .o _ => fun _ => none
theorem put_val {F H F1 H1 : Hp} {σ : Sg} {ρ ρ1 ρ2 : Rho} {fp fp1 : FP} {i : Nat} {v : V} {d : PyData} (s1 : Step K F H σ ρ fp F1 H1 σ ρ1 fp1) (hset : setSl ρ1 i (.val d) = some ρ2) (hd : Dq K F1 v d) : Step K F H σ ρ fp F1 H1 (σ.set i (some v)) ρ2 (fset fp1 i []) :=
  set_step s1 hset ⟨v, rfl, hd⟩ List.nodup_nil (fun b hb => nomatch hb) (fun _ => rfl) (fun b hb => nomatch hb)
theorem map_some {α β : Type} {f : α → β} {o : Option α} {b : β} (h : o.map f = some b) : ∃ a, o = some a ∧ b = f a := by
  cases o with
  | none => cases h
  | some a => exact ⟨a, rfl, (Option.some.inj h).symm⟩
theorem vs_set {i : Nat} {x : Str} {pos' : Pos} (hN : X.N.Nodup) (he : VE X T W e fa) (hi : X.N[i]? = some x := by rfl) (hx : Loc X.env.scope x := by first | exact Or.inl rfl | exact Or.inr rfl) (hs : swapsWith e (some (.Name x pos')) pos.line X.env = pure false := by rfl)
    (hf : X.fn x = true ∨ X.env.scope.names.lookup x = some .local := by first | exact .inl rfl | exact .inr rfl | assumption) : VS X W (.Assign [.Name x pos'] e pos) (sSet i fa) :=
  ps_imp (ps_set hN hi hx he hs hf) fun D σ H ⟨F, ρ, fp, o, E, e, P⟩ => by
    refine tv_st E e P fun r ρ1 v H1 F1 fp1 s1 r1 e1 _ => ?_
    cases r with
    | o _ => cases e1
    | d d =>
      obtain ⟨ρ2, e2, rfl⟩ := map_some e1
      exact P _ H1 F1 _ (put_val s1.st e2 r1)
noncomputable def sSetN (i : Nat) (f : M Tr) : MS := sE f fun t => fun ρ => (setSl ρ i (.own .free t)).map .nx
theorem vs_setN {i : Nat} {x : Str} {pos' : Pos} (hN : X.N.Nodup) (he : VN X T W e fn) (hi : X.N[i]? = some x := by rfl) (hx : Loc X.env.scope x := by first | exact Or.inl rfl | exact Or.inr rfl) (hs : swapsWith e (some (.Name x pos')) pos.line X.env = pure false := by rfl)
    (hf : X.fn x = true ∨ X.env.scope.names.lookup x = some .local := by first | exact .inl rfl | exact .inr rfl | assumption) : VS X W (.Assign [.Name x pos'] e pos) (sSetN i fn) :=
  ps_imp (ps_set hN hi hx he hs hf) fun D σ H ⟨F, ρ, fp, o, E, e, P⟩ => by
    refine tv_st E e P fun t ρ1 v H1 F1 fp1 s1 ⟨A, n⟩ e1 _ => ?_
    obtain ⟨ρ2, e2, rfl⟩ := map_some e1
    exact P _ H1 F1 _ (set_step s1.st e2 ⟨v, rfl, n.ok⟩ n.nd n.out (fun z => nomatch z) n.new)
noncomputable abbrev MG := PyData → Rho → Option Rho
noncomputable def Off (vs : List Nat) (σ : Sg) (ρ : Rho) (fp : FP) (σ' : Sg) (ρ' : Rho) (fp' : FP) : Prop := σ'.length = σ.length ∧ ∀ (i : Nat), i ∉ vs → sg σ' i = sg σ i ∧ ρ'[i]? = ρ[i]? ∧ fp' i = fp i
theorem Off.refl {vs : List Nat} {σ : Sg} {ρ : Rho} {fp : FP} : Off vs σ ρ fp σ ρ fp := ⟨rfl, fun _ _ => ⟨rfl, rfl, rfl⟩⟩
theorem Off.trans {us vs : List Nat} {σ σ1 σ2 : Sg} {ρ ρ1 ρ2 : Rho} {fp fp1 fp2 : FP} (a : Off us σ ρ fp σ1 ρ1 fp1) (b : Off vs σ1 ρ1 fp1 σ2 ρ2 fp2) : Off (us ++ vs) σ ρ fp σ2 ρ2 fp2 :=
  ⟨b.1.trans a.1, fun i hi => by
    obtain ⟨a1, a2, a3⟩ := a.2 i fun z => hi (List.mem_append_left _ z)
    obtain ⟨b1, b2, b3⟩ := b.2 i fun z => hi (List.mem_append_right _ z)
    exact ⟨b1.trans a1, b2.trans a2, b3.trans a3⟩⟩
noncomputable def GOk (K : Fg) (g : TG) (ws : List Nat) (G : MG) : Prop := ∀ v σ H Q F ρ fp d ρ', EnvOk K F H σ ρ fp → Dq K F v d → G d ρ = some ρ' → (∀ σ' fp', Step K F H σ ρ fp F H σ' ρ' fp' → Off ws σ ρ fp σ' ρ' fp' → Q σ' H) → g v σ H Q
noncomputable def VG (X : Cx) (tg : Expr) (g : TG) (ws : List Nat) (G : MG) : Prop := PG X tg g ∧ GOk X.K g ws G
noncomputable def gN (i : Nat) : MG := fun d ρ => setSl ρ i (.val d)
theorem vg_name {i : Nat} {x : Str} (hN : X.N.Nodup) (hi : X.N[i]? = some x := by rfl) (hx : Loc X.env.scope x := by first | exact Or.inl rfl | exact Or.inr rfl) (hf : X.fn x = true ∨ X.env.scope.names.lookup x = some .local := by first | exact .inl rfl | exact .inr rfl | assumption) : VG X (.Name x pos) (gName i) [i] (gN i) :=
  ⟨pg_name hN hi hx hf, fun v σ H Q F ρ fp d ρ' E hd e k => k _ _ (put_val (.refl E) e hd) (by
    obtain ⟨rfl, h2, h3, h4⟩ := setSl_some e
    refine ⟨List.length_set, fun j hj => ?_⟩
    have hij : i ≠ j := fun z => hj (by simp [z])
    refine ⟨sg_set_ne hij, List.getElem?_set_ne hij, ?_⟩
    unfold fset
    rw [if_neg (Ne.symm hij)])⟩
noncomputable abbrev MGs := List PyData → Rho → Option Rho
noncomputable def VGs (X : Cx) (tgs : List Expr) (g : TGs) (ws : List Nat) (G : MGs) : Prop := PGs X tgs g ∧ ∀ vs σ H Q F ρ fp ds ρ', EnvOk X.K F H σ ρ fp → DqAll X.K F vs ds → G ds ρ = some ρ' → (∀ σ' fp', Step X.K F H σ ρ fp F H σ' ρ' fp' → Off ws σ ρ fp σ' ρ' fp' → Q σ' H) → g vs σ H Q
noncomputable def gsN : MGs := fun ds ρ => match ds with
  | [] => some ρ
  | _ => none
noncomputable def gsC (G : MG) (Gs : MGs) : MGs := fun ds ρ => match ds with
  | d :: r => (match G d ρ with
    | some ρ1 => Gs r ρ1
    | none => none)
  | [] => none
theorem vgs_nil : VGs X [] gNil [] gsN := ⟨pgs_nil, fun vs σ H Q F ρ fp ds ρ' E hd e k => by
  unfold gsN at e
  split at e
  · cases hd
    cases e
    exact ⟨rfl, k σ fp (.refl E) .refl⟩
  · cases e⟩
theorem vgs_cons {tg : Expr} {tgs : List Expr} {us vs : List Nat} {g : TG} {gs : TGs} {G : MG} {Gs : MGs} (h1 : VG X tg g us G) (h2 : VGs X tgs gs vs Gs) (hs : (assignEach (tg :: tgs) X.env).map (·.2) = assign tg X.env :: (assignEach tgs X.env).map (·.2) := by rfl) : VGs X (tg :: tgs) (gCons g gs) (us ++ vs) (gsC G Gs) := by
  obtain ⟨p1, q1⟩ := h1
  obtain ⟨p2, q2⟩ := h2
  refine ⟨pgs_cons p1 p2 hs, fun vs σ H Q F ρ fp ds ρ' E hd e k => ?_⟩
  unfold gsC at e
  split at e
  · cases hd with
    | cons hv hr =>
      split at e
      · rename_i ρ1 e1
        refine ⟨_, _, rfl, q1 _ σ H _ F ρ fp _ ρ1 E hv e1 fun σ1 fp1 s1 o1 => ?_⟩
        exact q2 _ σ1 H Q F ρ1 fp1 _ ρ' s1.env hr e fun σ' fp' s2 o2 => k σ' fp' (s1.trans s2) (o1.trans o2)
      · cases e
  · cases e
noncomputable def gT (n : Nat) (Gs : MGs) : MG := fun d ρ => match d with
  | .tuple ds => if ds.length = n then Gs ds ρ else none
  | _ => none
theorem vg_tup {es : List Expr} {k n : Nat} {vs : List Nat} {gs : TGs} {Gs : MGs} (hc : X.calm = true) (h : VGs X es gs vs Gs) (hn : (assignEach es X.env).length = n := by rfl) (hst : (assignEach es X.env).findIdx? (·.1) = none := by rfl) : VG X (.Tuple es k pos) (gTup X.K n gs) vs (gT n Gs) := by
  obtain ⟨p1, q1⟩ := h
  refine ⟨pg_tup hc p1 hn hst, fun v σ H Q F ρ fp d ρ' E hd e k => ?_⟩
  unfold gT at e
  split at e
  · split at e
    · rename_i hl
      cases hd with
      | tups hs ha => exact ⟨_, _, rfl, (hs.mono E.sub).sq, by rw [dqAll_len ha]; exact hl, q1 _ σ H Q F ρ fp _ ρ' E ha e k⟩
    · cases e
  · cases e
noncomputable def sAsg (G : MG) (f : M Rv) : MS := sE f fun x => fun ρ => match x with
  | .d d => (G d ρ).map .nx
  | .o _ => none
theorem vs_asg {tg : Expr} {gt : TG} {ws : List Nat} {G : MG} (he : VE X T W e fa) (hg : VG X tg gt ws G) (hs : swapsWithSole [tg] e pos.line X.env = pure false := by rfl) (hw : swappedStores [tg] e X.env = pure none := by rfl)
    (h1 : (assignEach [tg] X.env).map (·.2) = [assign tg X.env] := by rfl) : VS X W (.Assign [tg] e pos) (sAsg G fa) := by
  obtain ⟨p1, q1⟩ := hg
  refine ps_imp (ps_asg he p1 hs hw h1) fun D σ H ⟨F, ρ, fp, o, E, e, P⟩ => ?_
  refine tv_st E e P fun r ρ1 v H1 F1 fp1 s1 r1 e1 P1 => ?_
  cases r with
  | o _ => cases e1
  | d d =>
    obtain ⟨ρ2, e2, rfl⟩ := map_some e1
    exact q1 v σ H1 _ F1 ρ1 fp1 d ρ2 s1.env r1 e2 fun σ' fp' s2 _ => P1 σ' H1 F1 fp' s2
variable {fc : M Bool} {c : Expr} {body els : List Stmt}
noncomputable def sIf (c : M Bool) (g h : MS) : MS := sE c fun b => if b then g else h
theorem vs_if (hc : VT X T W c fc) (ha : VSs X W body g) (hb : VSs X W els h) : VS X W (.If c body els pos) (sIf fc g h) := ps_imp (ps_if hc ha hb) fun D σ H ⟨F, ρ, fp, o, E, e, P⟩ => by
  refine tv_st E e P fun x ρ1 v H1 F1 fp1 s1 r1 e1 P1 => ?_
  have r1 : v = x := r1
  subst r1
  cases v with
  | true =>
    rw [if_pos rfl] at e1 ⊢
    exact ⟨F1, ρ1, fp1, o, s1.env, e1, P1⟩
  | false =>
    rw [if_neg Bool.false_ne_true] at e1 ⊢
    exact ⟨F1, ρ1, fp1, o, s1.env, e1, P1⟩
noncomputable def sBk : MS := fun ρ => some (.bk ρ)
noncomputable def sCt : MS := fun ρ => some (.ct ρ)
noncomputable def sDrop (f : M Rv) : MS := sE f fun _ => sNil
noncomputable def VI (X : Cx) (T : List Nat) (W : WV) (tg iter : Expr) (f : M (List PyData)) : Prop := ∃ wi, PI X tg iter wi ∧ ∀ σ H R F ρ fp o, EnvOk X.K F H σ ρ fp → f ρ = some o →
  (match o with
   | Er.ok xs ρ' => ∀ J G Y H1 F1 fp1, EStep X.K T F H σ ρ fp F1 H1 ρ' fp1 → Walk J xs.length G Y → (∀ F2 H2, Same F1 F2 → Same F2 H2 → G H2) →
      (∀ i F2 H2 x H3, i < xs.length → Same F1 F2 → Same F2 H2 → Y i H2 x H3 → ∃ F3 d, xs[i]? = some d ∧ Grow F2 H2 F3 H3 ∧ Dq X.K F3 x d) → R J H1
   | Er.ex c ρ' => ∀ H1 F1 fp1, EStep X.K T F H σ ρ fp F1 H1 ρ' fp1 → W c σ H1) → wi σ H R
theorem pi_or {tg iter : Expr} {w w' : TI} (h : PI X tg iter w) (h' : PI X tg iter w') : PI X tg iter (fun σ H R => w σ H R ∨ w' σ H R) := ⟨fun pins s σ H R I q => q.elim (h.run pins s σ H R I) (h'.run pins s σ H R I)⟩
noncomputable def itemsOf : PyData → Option (List PyData)
  | .list xs => some xs
  | .tuple xs => some xs
  | _ => none
noncomputable def iSeq (f : M Rv) : M (List PyData) := bnd f fun x => fun ρ => match x with
  | .d d => (match itemsOf d with
    | some xs => some (.ok xs ρ)
    | none => none)
  | .o _ => none
theorem vi_seq {tg : Expr} (he : VE X T W e fa) : VI X T W tg e (iSeq fa) := by
  refine ⟨_, pi_or (pi_list he) (pi_tup he), fun σ H R F ρ fp o E q P => ?_⟩
  unfold iSeq bnd at q
  cases hf : fa ρ with
  | none => rw [hf] at q; cases q
  | some r =>
    rw [hf] at q
    cases r with
    | ex c ρ1 => cases q; exact .inl ⟨F, ρ, fp, _, E, hf, fun H1 F1 fp1 s1 => P H1 F1 fp1 s1⟩
    | ok x ρ1 =>
      cases x with
      | o i => cases q
      | d d =>
        simp only at q
        split at q
        · rename_i xs hx
          cases q
          unfold itemsOf at hx
          split at hx
          · cases hx
            refine .inl ⟨F, ρ, fp, _, E, hf, fun v H1 F1 fp1 s1 r1 => ?_⟩
            cases r1 with
            | @lst a0 vs0 _ hs ha =>
              have w0 := walk_list (K := X.K) (a := a0) (xs := vs0)
              rw [dqAll_len ha] at w0
              refine ⟨_, rfl, ⟨_, .inl (rd_mono s1.env.sub hs)⟩, P _ _ _ H1 F1 fp1 s1 w0 (fun F2 H2 a b => .inl (rd_mono (a.trans b) hs)) fun i F2 H2 x H3 hi a b y => ?_⟩
              obtain ⟨rfl, hy⟩ := y
              obtain ⟨v, hv, dv⟩ := dqAll_get ha (List.getElem?_eq_getElem hi)
              rw [hv] at hy; cases hy
              exact ⟨F2, _, List.getElem?_eq_getElem hi, .refl b, dq_mono a _ _ dv⟩
          · cases hx
            refine .inr ⟨F, ρ, fp, _, E, hf, fun v H1 F1 fp1 s1 r1 => ?_⟩
            cases r1 with
            | @tups a0 vs0 _ hs ha =>
              have w0 := walk_tup (K := X.K) (a := a0) (xs := vs0)
              rw [dqAll_len ha] at w0
              refine ⟨_, rfl, ⟨_, (hs.mono s1.env.sub).sq⟩, P _ _ _ H1 F1 fp1 s1 w0 (fun F2 H2 a b => (hs.mono (a.trans b)).sq) fun i F2 H2 x H3 hi a b y => ?_⟩
              obtain ⟨rfl, hy⟩ := y
              obtain ⟨v, hv, dv⟩ := dqAll_get ha (List.getElem?_eq_getElem hi)
              rw [hv] at hy; cases hy
              exact ⟨F2, _, List.getElem?_eq_getElem hi, .refl b, dq_mono a _ _ dv⟩
          · cases hx
        · cases q
noncomputable def rangeD (lo : Int) (n : Nat) : List PyData := (List.range n).map fun i => .int (lo + (i : Nat))
noncomputable def iRange1 (f : M (List Rv)) : M (List PyData) := bnd f fun rs => fun ρ => match rs with
  | [.d (.int j)] => if -(2 ^ 62) ≤ j ∧ j < 2 ^ 62 then some (.ok (rangeD 0 j.toNat) ρ) else none
  | _ => none
theorem rangeD_len (lo : Int) (n : Nat) : (rangeD lo n).length = n := by unfold rangeD; simp
theorem rangeD_get {lo : Int} {n i : Nat} (h : i < n) : (rangeD lo n)[i]? = some (.int (lo + (i : Nat))) := by
  unfold rangeD
  rw [List.getElem?_map, List.getElem?_range h]
  rfl
theorem vi_range1 {tg a : Expr} {fs : M (List Rv)} {p : Pos} (hg : Gl X "range") (hm : X.mg "range" = none) (ha : VA X T W [a] fs) (hs : starEach [a] X.env = [(false, eval a X.env)] := by rfl) : VI X T W tg (.Call (.Name "range" p) [a] [] pos) (iRange1 fs) := by
  refine ⟨_, pi_range1 hg hm ha hs, fun σ H R F ρ fp o E q P => ?_⟩
  unfold iRange1 bnd at q
  cases hf : fs ρ with
  | none => rw [hf] at q; cases q
  | some r =>
    rw [hf] at q
    cases r with
    | ex c ρ1 => cases q; exact ⟨F, ρ, fp, _, E, hf, fun H1 F1 fp1 s1 => P H1 F1 fp1 s1⟩
    | ok rs ρ1 =>
      refine ⟨F, ρ, fp, _, E, hf, fun vs H1 F1 fp1 s1 r1 => ?_⟩
      simp only at q
      split at q
      · split at q
        · rename_i j hj
          cases q
          cases r1 with
          | cons h t =>
            cases t
            cases h
            refine ⟨j, rfl, hj.1, hj.2, P _ _ _ H1 F1 fp1 s1 (by rw [rangeD_len]; exact walk_range) (fun _ _ _ _ => trivial) fun i F2 H2 x H3 hi a b y => ?_⟩
            obtain ⟨rfl, rfl⟩ := y
            rw [rangeD_len] at hi
            exact ⟨F2, _, rangeD_get hi, .refl b, .int _⟩
        · cases q
      · cases q
noncomputable def enumD (xs : List PyData) : List PyData := xs.zipIdx.map fun p => .tuple [.int (p.2 : Nat), p.1]
theorem enumD_len (xs : List PyData) : (enumD xs).length = xs.length := by unfold enumD; simp
theorem enumD_get {xs : List PyData} {i : Nat} {d : PyData} (h : xs[i]? = some d) : (enumD xs)[i]? = some (.tuple [.int (i : Nat), d]) := by
  unfold enumD
  rw [List.getElem?_map, List.getElem?_zipIdx, h]
  simp
theorem pair_ok {F2 H2 H3 : Hp} {x y v : V} {Tn : Addr} {dx dy : PyData} (b : Same F2 H2) (hn : H2 Tn = none) (e3 : H3 = upd H2 Tn (.tup [x, y])) (hx : Dq K F2 x dx) (hy : Dq K F2 y dy) : ∃ F3, Grow F2 H2 F3 H3 ∧ Dq K F3 (.ref Tn) (.tuple [dx, dy]) := by
  subst e3
  have s3 : Same F2 (upd F2 Tn (.tup [x, y])) := same_upd (b.free hn)
  exact ⟨_, .new _ b hn, .tup upd_same (.cons (dq_mono s3 _ _ hx) (.cons (dq_mono s3 _ _ hy) .nil))⟩
noncomputable def loopF (G : MG) (body : MS) : List PyData → MS
  | [], ρ => some (.nx ρ)
  | x :: xs, ρ => match G x ρ with
    | none => none
    | some ρ1 => match body ρ1 with
      | some (.nx ρ2) => loopF G body xs ρ2
      | some (.ct ρ2) => loopF G body xs ρ2
      | some (.bk ρ2) => some (.nx ρ2)
      | o => o
noncomputable def sFor (fi : M (List PyData)) (G : MG) (body : MS) : MS := sE fi fun xs => loopF G body xs
theorem vs_for {tg iter : Expr} {gt : TG} {ws : List Nat} {fi : M (List PyData)} {G : MG} (hp : PassesOwn (model X.prog X.w) X.A X.env X.xe) (hc : X.calm = true) (hi : VI X T W tg iter fi) (hg : VG X tg gt ws G) (hb : VSs X W body g)
    (hs : ∀ x, foldedSetIterable iter X.env x = pure x := by intro _; rfl) : VS X W (.For tg iter body [] pos) (sFor fi G g) := by
  obtain ⟨wi, p1, q1⟩ := hi
  obtain ⟨p2, q2⟩ := hg
  refine ps_imp (ps_for hp hc p1 p2 hb hs) fun D σ H ⟨F, ρ, fp, o, E, e, P⟩ => ?_
  unfold sFor sE at e
  cases hf : fi ρ with
  | none => rw [hf] at e; cases e
  | some r =>
    rw [hf] at e
    cases r with
    | ex c ρ1 => cases e; exact q1 σ H _ F ρ fp _ E hf fun H1 F1 fp1 s1 => P σ H1 F1 fp1 s1.st
    | ok xs ρ1 =>
      refine q1 σ H _ F ρ fp _ E hf fun J Gw Y H1 F1 fp1 s1 w hG hY => ?_
      have P1 := P.step s1.st
      refine for_it w (fun i σ' H' => ∃ F' ρ' fp', Step X.K F1 H1 σ ρ1 fp1 F' H' σ' ρ' fp' ∧ loopF G g (xs.drop i) ρ' = some o) ⟨F1, ρ1, fp1, .refl s1.env, by rw [List.drop_zero]; exact e⟩
        (fun i σ' H' _ ⟨F', ρ', fp', s2, _⟩ => hG F' H' s2.fr s2.env.sub) (fun i x σ' H' H3 hi ⟨F', ρ', fp', s2, e2⟩ y => ?_) fun σ' H' ⟨F', ρ', fp', s2, e2⟩ => ?_
      · obtain ⟨F3, d, hd, g3, dx⟩ := hY i F' H' x H3 hi s2.fr s2.env.sub y
        have hdrop : xs.drop i = d :: xs.drop (i + 1) := by
          obtain ⟨hi', hd'⟩ := List.getElem?_eq_some_iff.mp hd
          rw [List.drop_eq_getElem_cons hi', hd']
        rw [hdrop] at e2
        unfold loopF at e2
        have s3 : Step X.K F1 H1 σ ρ1 fp1 F3 H3 σ' ρ' fp' := s2.trans (g3.step (T := []) s2.env).st
        split at e2
        · cases e2
        · rename_i ρ4 h4
          refine q2 x σ' H3 _ F3 ρ' fp' d ρ4 s3.env dx h4 fun σ4 fp4 s4 _ => ?_
          have s5 := s3.trans s4
          split at e2
          · rename_i ρ5 h5
            exact ⟨F3, ρ4, fp4, _, s4.env, h5, fun σ6 H6 F6 fp6 s6 => ⟨F6, ρ5, fp6, s5.trans s6, e2⟩⟩
          · rename_i ρ5 h5
            exact ⟨F3, ρ4, fp4, _, s4.env, h5, fun σ6 H6 F6 fp6 s6 => ⟨F6, ρ5, fp6, s5.trans s6, e2⟩⟩
          · rename_i ρ5 h5
            cases e2
            exact ⟨F3, ρ4, fp4, _, s4.env, h5, fun σ6 H6 F6 fp6 s6 => P1 σ6 H6 F6 fp6 (s5.trans s6)⟩
          · rename_i h1' h2' h3'
            refine ⟨F3, ρ4, fp4, _, s4.env, e2, ?_⟩
            cases o with
            | nx ρ5 => exact absurd e2 (h1' ρ5)
            | ct ρ5 => exact absurd e2 (h2' ρ5)
            | bk ρ5 => exact absurd e2 (h3' ρ5)
            | rt t ρ5 => exact fun v A σ6 H6 F6 fp6 s6 n => P1 v A σ6 H6 F6 fp6 (s5.trans s6) (n.back s5)
            | ex c ρ5 => exact fun σ6 H6 F6 fp6 s6 => P1 σ6 H6 F6 fp6 (s5.trans s6)
      · rw [List.drop_length] at e2
        cases (Option.some.inj e2)
        exact P1 σ' H' F' fp' s2
noncomputable def loopW (c : M Bool) (body : MS) : Nat → MS
  | 0, _ => none
  | n + 1, ρ => match c ρ with
    | none => none
    | some (.ex k ρ1) => some (.ex k ρ1)
    | some (.ok false ρ1) => some (.nx ρ1)
    | some (.ok true ρ1) => match body ρ1 with
      | some (.nx ρ2) => loopW c body n ρ2
      | some (.ct ρ2) => loopW c body n ρ2
      | some (.bk ρ2) => some (.nx ρ2)
      | o => o
noncomputable def sWhile (n : Nat) (c : M Bool) (body : MS) : MS := loopW c body n
theorem vs_while {n : Nat} (hp : PassesOwn (model X.prog X.w) X.A X.env X.xe) (hc : VT X T W c fc) (hb : VSs X W body g) : VS X W (.While c body [] pos) (sWhile n fc g) := by
  refine ps_imp (ps_while hp hc hb) fun D σ H ⟨F, ρ, fp, o, E, e, P⟩ => ?_
  refine ⟨fun m σ' H' => ∃ F' ρ' fp', Step X.K F H σ ρ fp F' H' σ' ρ' fp' ∧ loopW fc g m ρ' = some o, ⟨n, F, ρ, fp, .refl E, e⟩, fun m σ' H' ⟨F', ρ', fp', s1, e1⟩ => ?_⟩
  cases m with
  | zero => cases e1
  | succ m =>
    unfold loopW at e1
    cases hf : fc ρ' with
    | none => rw [hf] at e1; cases e1
    | some r =>
      rw [hf] at e1
      cases r with
      | ex k ρ1 =>
        cases e1
        exact ⟨F', ρ', fp', _, s1.env, hf, fun H2 F2 fp2 s2 => P σ' H2 F2 fp2 (s1.trans s2.st)⟩
      | ok b ρ1 =>
        refine ⟨F', ρ', fp', _, s1.env, hf, fun v H2 F2 fp2 s2 r2 => ?_⟩
        have r2 : v = b := r2
        subst r2
        have s3 := s1.trans s2.st
        cases v with
        | false =>
          dsimp only
          rw [if_neg Bool.false_ne_true]
          cases (Option.some.inj e1)
          exact P σ' H2 F2 fp2 s3
        | true =>
          dsimp only
          rw [if_pos rfl]
          refine ⟨fun σ6 H6 => ∃ F6 ρ6 fp6, Step X.K F H σ ρ fp F6 H6 σ6 ρ6 fp6 ∧ loopW fc g m ρ6 = some o, fun σ6 H6 q => ⟨m, Nat.lt_succ_self m, q⟩, ?_⟩
          simp only at e1
          split at e1
          · rename_i ρ5 h5
            exact ⟨F2, ρ1, fp2, _, s2.env, h5, fun σ6 H6 F6 fp6 s6 => ⟨F6, ρ5, fp6, s3.trans s6, e1⟩⟩
          · rename_i ρ5 h5
            exact ⟨F2, ρ1, fp2, _, s2.env, h5, fun σ6 H6 F6 fp6 s6 => ⟨F6, ρ5, fp6, s3.trans s6, e1⟩⟩
          · rename_i ρ5 h5
            cases e1
            exact ⟨F2, ρ1, fp2, _, s2.env, h5, fun σ6 H6 F6 fp6 s6 => P σ6 H6 F6 fp6 (s3.trans s6)⟩
          · rename_i h1' h2' h3'
            refine ⟨F2, ρ1, fp2, _, s2.env, e1, ?_⟩
            cases o with
            | nx ρ5 => exact absurd e1 (h1' ρ5)
            | ct ρ5 => exact absurd e1 (h2' ρ5)
            | bk ρ5 => exact absurd e1 (h3' ρ5)
            | rt t ρ5 => exact fun v A σ6 H6 F6 fp6 s6 n => P v A σ6 H6 F6 fp6 (s3.trans s6) (n.back s3)
            | ex c ρ5 => exact fun σ6 H6 F6 fp6 s6 => P σ6 H6 F6 fp6 (s3.trans s6)
end
end VL

end

section
set_option Elab.async false
set_option linter.all false
set_option maxRecDepth 100000
namespace VL
open PySem PySem.Spec PyProof.Rows L2

noncomputable def pinS : Sl → Sl
  | .own .free t => .own .pin t
  | s => s
inductive FR where
  | ret (t : Tr)
  | exc (c : Str)
noncomputable abbrev Fn := List Sl → Option (FR × List Sl)
noncomputable def entry (n : Nat) (args : List Sl) : Rho := args.map pinS ++ List.replicate (n - args.length) .no
noncomputable def runF (n : Nat) (g : MS) : Fn := fun args => match g (entry n args) with
  | some (.nx ρ') => some (.ret (.dat .none), ρ'.take args.length)
  | some (.rt t ρ') => some (.ret t, ρ'.take args.length)
  | some (.ex c ρ') => some (.exc c, ρ'.take args.length)
  | _ => none
noncomputable def Md.unb : Md → Md
  | .bor _ => .pin
  | m => m
noncomputable def Md.arg : Md → Md
  | .bor _ => .lock
  | m => m
theorem Md.unb_pn : ∀ {m : Md}, m.pn = true → m.unb = .pin
  | .pin, _ => rfl
  | .bor _, _ => rfl
noncomputable def mrg1 (a : Sl) (o : Option Sl) : Sl := match a, o with
  | .own _ _, some (.own m t) => .own m.unb t
  | .own _ _, some o => o
  | a, _ => a
noncomputable def mrg : List Sl → List Sl → List Sl
  | [], _ => []
  | a :: as, os => mrg1 a os.head? :: mrg as os.tail
theorem mrg_get : ∀ {as os : List Sl} {i : Nat} {a : Sl}, as[i]? = some a → (mrg as os)[i]? = some (mrg1 a os[i]?)
  | [], _, _, _, h => by simp at h
  | b :: as, os, 0, a, h => by
    simp at h; subst h
    cases os <;> rfl
  | b :: as, os, i + 1, a, h => by
    have := mrg_get (as := as) (os := os.tail) (i := i) (a := a) (by simpa using h)
    show (mrg as os.tail)[i]? = _
    rw [this]
    cases os <;> simp
theorem mrg_len : ∀ {as os : List Sl}, (mrg as os).length = as.length
  | [], _ => rfl
  | _ :: as, os => by simp [mrg, mrg_len (as := as)]
noncomputable abbrev WX0 := Str → XK → Hp → Prop
noncomputable def FPst (K : Fg) (Wx : WX0) (F H : Hp) (vs : List V) (args : List Sl) (fp : FP) (outs : List Sl) (Q : VK) (E : XK) : FR → Prop
  | .ret t => ∀ v A H' F' fp', Step K F H (vs.map some) args fp F' H' (vs.map some) (mrg args outs) fp' → NewOk K H fp F' H' fp' v t A → Q v H'
  | .exc c => ∀ H' F' fp', Step K F H (vs.map some) args fp F' H' (vs.map some) (mrg args outs) fp' → Wx c E H'
noncomputable def spV (K : Fg) (Wx : WX0) (m : Nat) (f : Fn) : Sp := fun vs H Q E => vs.length = m ∧ ∃ F args fp r outs, EnvOk K F H (vs.map some) args fp ∧ f args = some (r, outs) ∧ FPst K Wx F H vs args fp outs Q E r
section
variable {K : Fg}
theorem slOk_pin {F H : Hp} {v : Option V} {A : List Addr} : ∀ {s : Sl}, SlOk K F H v A s → SlOk K F H v A (pinS s)
  | .no, h => h
  | .val _, h => h
  | .own .free _, h => h
  | .own .pin _, h => h
  | .own .lock _, h => h
  | .own (.bor _) _, h => h
  | .al _ _, h => h
theorem entry_env {F H : Hp} {vs : List V} {args : List Sl} {fp : FP} {n : Nat} (E : EnvOk K F H (vs.map some) args fp) : EnvOk K F H (vs.map some ++ List.replicate (n - vs.length) none) (entry n args) fp := by
  have hl : vs.length = args.length := by have := E.len; rwa [List.length_map] at this
  have sgE : ∀ i, i < args.length → sg (vs.map some ++ List.replicate (n - vs.length) none) i = sg (vs.map some) i := fun i hi => by
    unfold sg
    rw [List.getElem?_append_left (by simpa [hl] using hi)]
  have back : ∀ (i : Nat) s, (entry n args)[i]? = some s → s ≠ .no → ∃ a, args[i]? = some a ∧ s = pinS a := fun i s h hs => by
    unfold entry at h
    by_cases hi : i < args.length
    · rw [List.getElem?_append_left (by simpa using hi), List.getElem?_map, List.getElem?_eq_getElem hi] at h
      cases h
      exact ⟨_, List.getElem?_eq_getElem hi, rfl⟩
    · rw [List.getElem?_append_right (by simpa using hi), List.getElem?_replicate] at h
      split at h
      · cases h; exact absurd rfl hs
      · cases h
  refine ⟨E.sub, by unfold entry; simp [hl], fun i s h => ?_, fun i h => ?_, E.nd, E.ap, E.tb, E.al' (fun j k p h => ?_) fun k p t h => ?_⟩
  rotate_left 2
  · obtain ⟨a, h1, h2⟩ := back j _ h (fun z => nomatch z)
    have e : a = .al k p := by
      cases a with
      | al _ _ => exact h2.symm
      | own m t => cases m <;> cases h2
      | _ => cases h2
    subst e
    exact ⟨h1, sgE j (List.getElem?_eq_some_iff.mp h1).1⟩
  · obtain ⟨a, h1, h2⟩ := back k _ h (fun z => nomatch z)
    have e : a = .own (.bor p) t := by
      cases a with
      | own m t => cases m <;> cases h2; rfl
      | _ => cases h2
    subst e
    exact ⟨h1, sgE k (List.getElem?_eq_some_iff.mp h1).1, fun _ _ => rfl⟩
  · unfold entry at h
    by_cases hi : i < args.length
    · rw [List.getElem?_append_left (by simpa using hi), List.getElem?_map, List.getElem?_eq_getElem hi] at h
      cases h
      refine slOk_pin ?_
      have q := E.sl i _ (List.getElem?_eq_getElem hi)
      have e : sg (vs.map some ++ List.replicate (n - vs.length) none) i = sg (vs.map some) i := by
        unfold sg
        rw [List.getElem?_append_left (by simpa [hl] using hi)]
      rw [e]
      exact q
    · rw [List.getElem?_append_right (by simpa using hi), List.getElem?_replicate] at h
      split at h
      · cases h; trivial
      · cases h
  · refine E.nil i fun m t z => ?_
    have hi : i < args.length := (List.getElem?_eq_some_iff.mp z).1
    have q : (entry n args)[i]? = some (pinS (.own m t)) := by
      unfold entry
      rw [List.getElem?_append_left (by simpa using hi), List.getElem?_map, z]
      rfl
    cases m with
    | free => exact h _ _ q
    | pin => exact h _ _ q
    | lock => exact h _ _ q
    | bor _ => exact h _ _ q
noncomputable def isOwnAt (args : List Sl) (i : Nat) : Bool := match args[i]? with
  | some (.own _ _) => true
  | _ => false
theorem exit_step {F H F' H' : Hp} {vs : List V} {args : List Sl} {fp fp' : FP} {n : Nat} {σ' : Sg} {ρ' : Rho} (E : EnvOk K F H (vs.map some) args fp)
    (s : Step K F H (vs.map some ++ List.replicate (n - vs.length) none) (entry n args) fp F' H' σ' ρ' fp') :
    Step K F H (vs.map some) args fp F' H' (vs.map some) (mrg args (ρ'.take args.length)) (fun i => if isOwnAt args i then fp' i else []) := by
  have hl : vs.length = args.length := by have := E.len; rwa [List.length_map] at this
  have key : ∀ (i : Nat) m t, args[i]? = some (Sl.own m t) → ∃ m' t', (mrg args (ρ'.take args.length))[i]? = some (Sl.own m'.unb t') ∧ ρ'[i]? = some (Sl.own m' t') ∧ sg σ' i = sg (vs.map some) i ∧
      (m = .lock → m' = .lock ∧ t' = t ∧ fp' i = fp i ∧ ∀ b ∈ fp i, H' b = H b) ∧ (m.pn = true → m'.pn = true) := by
    intro i m t h
    have hi : i < args.length := (List.getElem?_eq_some_iff.mp h).1
    have e : sg (vs.map some ++ List.replicate (n - vs.length) none) i = sg (vs.map some) i := by
      unfold sg
      rw [List.getElem?_append_left (by simpa [hl] using hi)]
    have q : (entry n args)[i]? = some (pinS (.own m t)) := by
      unfold entry
      rw [List.getElem?_append_left (by simpa using hi), List.getElem?_map, h]
      rfl
    have tk : (ρ'.take args.length)[i]? = ρ'[i]? := List.getElem?_take_of_lt hi
    cases m with
    | free =>
      obtain ⟨a, m', t', b, k⟩ := s.pin i _ t q rfl
      refine ⟨m', t', by rw [mrg_get h, tk, b]; rfl, b, a.trans e, (fun z => nomatch z), (fun z => nomatch z)⟩
    | pin =>
      obtain ⟨a, m', t', b, k⟩ := s.pin i _ t q rfl
      refine ⟨m', t', by rw [mrg_get h, tk, b]; rfl, b, a.trans e, (fun z => nomatch z), (fun _ => k)⟩
    | bor p =>
      obtain ⟨a, m', t', b, k⟩ := s.pin i _ t q rfl
      refine ⟨m', t', by rw [mrg_get h, tk, b]; rfl, b, a.trans e, (fun z => nomatch z), (fun _ => k)⟩
    | lock =>
      obtain ⟨a, b, c, d⟩ := s.lock i t q
      refine ⟨.lock, t, by rw [mrg_get h, tk, b]; rfl, b, a.trans e, (fun _ => ⟨rfl, rfl, c, d⟩), (fun z => nomatch z)⟩
  have ow : ∀ {b}, Owns (fun i => if isOwnAt args i then fp' i else []) b → Owns fp' b := fun {b} ⟨i, h⟩ => by
    dsimp only at h
    split at h
    · exact ⟨i, h⟩
    · cases h
  refine ⟨⟨s.env.sub, by rw [mrg_len]; exact E.len, fun i u hu => ?_, fun i hi => ?_, fun i => ?_, fun i j b h1 h2 => ?_, s.env.tb, fun j i p t h1 h2 => ?_⟩, s.fr, s.nf, s.dom, s.frame, fun b hb => s.own b (ow hb), fun i m t h hm => ?_, fun i t h => ?_⟩
  rotate_left 4
  · exfalso
    cases ha : args[i]? with
    | none =>
      have := (List.getElem?_eq_some_iff.mp h2).1
      rw [mrg_len] at this
      rw [List.getElem?_eq_none_iff] at ha
      omega
    | some a =>
      cases a with
      | own m t0 =>
        obtain ⟨m', t', e1, _⟩ := key i m t0 ha
        rw [e1] at h2
        cases m' <;> cases h2
      | no => rw [mrg_get ha] at h2; cases h2
      | val d => rw [mrg_get ha] at h2; cases h2
      | al _ _ => rw [mrg_get ha] at h2; cases h2
  · obtain ⟨m', t', e1, _, _, _, e5⟩ := key i _ t h
    refine ⟨rfl, _, t', e1, ?_⟩
    rw [Md.unb_pn (e5 hm)]
    rfl
  · obtain ⟨m', t', e1, _, _, e4, _⟩ := key i _ t h
    obtain ⟨rfl, rfl, e5, e6⟩ := e4 rfl
    have hy : isOwnAt args i = true := by unfold isOwnAt; rw [h]
    refine ⟨rfl, e1, ?_, e6⟩
    simp only [hy, if_true]
    exact e5
  · have hi : i < args.length := by
      have := (List.getElem?_eq_some_iff.mp hu).1
      rwa [mrg_len] at this
    cases ha : args[i]? with
    | none => rw [List.getElem?_eq_none_iff] at ha; omega
    | some a =>
      cases a with
      | own m t =>
        obtain ⟨m', t', e1, e2, e3, _⟩ := key i m t ha
        rw [e1] at hu; cases hu
        have q := s.env.sl i _ e2
        rw [e3] at q
        have q : SlOk K F' H' (sg (vs.map some) i) (fp' i) (.own m'.unb t') := q
        have hy : isOwnAt args i = true := by unfold isOwnAt; rw [ha]
        simp only [hy, if_true]
        exact q
      | no =>
        rw [mrg_get ha] at hu
        cases hu
        trivial
      | al _ _ =>
        rw [mrg_get ha] at hu
        cases hu
        trivial
      | val d =>
        rw [mrg_get ha] at hu
        cases hu
        obtain ⟨v, hv, hd⟩ := E.sl i _ ha
        exact ⟨v, hv, dq_mono s.fr _ _ hd⟩
  · split
    · rename_i hy
      unfold isOwnAt at hy
      split at hy
      · rename_i m t ha
        obtain ⟨m', t', e1, _⟩ := key i m t ha
        exact absurd e1 (hi _ t')
      · cases hy
    · rfl
  · split
    · exact s.env.nd i
    · exact List.nodup_nil
  · split at h1
    · split at h2
      · exact s.env.ap i j b h1 h2
      · cases h2
    · cases h1
end
section
variable {P : Program} {w : World} {K : PySem.W.Frag} {mg : Str → Option Value} {base : Heap}
noncomputable abbrev W0 : WV := fun _ _ _ => False
noncomputable abbrev Wx0 : WX0 := fun _ _ _ => False
theorem run_ok {CX : CXT} {x qual : Str} {f : Addr} {N ps : List Str} {sc : Scope} {Wx : WX0} {g : MS} {cdv : Value} {A : Around} {outer : List Env} {s : Shared} {H : Hp} {vs : List V} {Q : VK} {E : XK} (h : spV K Wx ps.length (runF N.length g) vs H Q E) :
    tS K (fun c _ H' => Wx c E H') g { nx := fun _ H' => Q .non H', rt := Q } (start N vs) H := by
  obtain ⟨hl, F, args, fp, r, outs, E0, e, P0⟩ := h
  have hla : vs.length = args.length := by have := E0.len; rwa [List.length_map] at this
  have E1 := entry_env (n := N.length) E0
  unfold runF at e
  cases q : g (entry N.length args) with
  | none => rw [q] at e; cases e
  | some o =>
    rw [q] at e
    refine ⟨F, entry N.length args, fp, o, E1, q, ?_⟩
    cases o with
    | nx ρ' =>
      cases e
      intro σ' H' F' fp' st
      exact P0 .non [] H' F' _ (exit_step E0 st) ⟨.dat .non, List.nodup_nil, (fun b hb => nomatch hb), (fun b hb => nomatch hb)⟩
    | rt t ρ' =>
      cases e
      intro v A' σ' H' F' fp' st n
      refine P0 v A' H' F' _ (exit_step E0 st) ⟨n.ok, n.nd, n.new, fun b hb z => n.out b hb ?_⟩
      obtain ⟨i, h⟩ := z
      dsimp only at h
      split at h
      · exact ⟨i, h⟩
      · cases h
    | ex c ρ' =>
      cases e
      intro σ' H' F' fp' st
      exact P0 H' F' _ (exit_step E0 st)
    | bk ρ' => cases e
    | ct ρ' => cases e
theorem fn_ok {x qual : Str} {st : Stmt} {f : Addr} {fd : FuncData} {N ps : List Str} {k : Nat} {g : MS} (F : Fun K x qual st f fd) (S : FnScope N ps (defScope st))
    (hb : ∀ (cdv : Value) (A : Around) (outer : List Env) (s : Shared) (H : Hp) (E : XK), Room k (A.deeper (envOfC qual (defScope st) s.heap.objs.size f cdv)) → VSs (cxOf CX0 P w K mg base N qual (defScope st) f cdv A outer s H E).nox W0 (defBody st) g) :
    FnOk P w K mg base CX0 (k + 1) f fd ps (spV K Wx0 ps.length (runF N.length g)) :=
  F.ok S (fun vs H Q E h => h.1) fun cdv A outer s H vs Q E hr h => ⟨_, hb cdv A outer s H E hr, run_ok (CX := CX0) (x := x) (qual := qual) (f := f) (sc := defScope st) (cdv := cdv) (A := A) (outer := outer) (s := s) h⟩
end

noncomputable def argSl (ρ : Rho) : Rv → Option Sl
  | .d x => some (.val x)
  | .o i => match ρ[i]? with
    | some (.own m t) => some (.own m.arg t)
    | _ => none
noncomputable def argSls (ρ : Rho) : List Rv → Option (List Sl)
  | [] => some []
  | r :: rs => match argSl ρ r, argSls ρ rs with
    | some a, some as => some (a :: as)
    | _, _ => none
noncomputable def posOf : List Rv → Nat → Option Nat
  | [], _ => none
  | .o j :: rs, i => if j = i then some 0 else (posOf rs i).map (· + 1)
  | .d _ :: rs, i => (posOf rs i).map (· + 1)
noncomputable def oneEach : List Rv → Bool
  | [] => true
  | .o j :: rs => (posOf rs j).isNone && oneEach rs
  | .d _ :: rs => oneEach rs
noncomputable def allIn (Ts : List Nat) : List Rv → Bool
  | [] => true
  | .o j :: rs => Ts.contains j && allIn Ts rs
  | .d _ :: rs => allIn Ts rs
noncomputable def wb1 (s : Sl) (o : Option Sl) : Sl := match s, o with
  | .own m _, some (.own _ t) => .own m t
  | s, _ => s
noncomputable def wbGo (rs : List Rv) (os : List Sl) : Nat → Rho → Rho
  | _, [] => []
  | i, s :: ρ => (match posOf rs i with
    | some k => wb1 s os[k]?
    | none => s) :: wbGo rs os (i + 1) ρ
noncomputable def wb (ρ : Rho) (rs : List Rv) (os : List Sl) : Rho := wbGo rs os 0 ρ
theorem wbGo_get {rs : List Rv} {os : List Sl} : ∀ {ρ : Rho} {j i : Nat}, (wbGo rs os j ρ)[i]? = (ρ[i]?).map fun s => match posOf rs (j + i) with
    | some k => wb1 s os[k]?
    | none => s
  | [], j, i => by simp [wbGo]
  | s :: ρ, j, 0 => by simp [wbGo]
  | s :: ρ, j, i + 1 => by
    have := wbGo_get (rs := rs) (os := os) (ρ := ρ) (j := j + 1) (i := i)
    show (wbGo rs os (j + 1) ρ)[i]? = _
    rw [this, show j + 1 + i = j + (i + 1) by omega]
    simp
theorem wb_get {rs : List Rv} {os : List Sl} {ρ : Rho} {i : Nat} : (wb ρ rs os)[i]? = (ρ[i]?).map fun s => match posOf rs i with
    | some k => wb1 s os[k]?
    | none => s := by
  have := wbGo_get (rs := rs) (os := os) (ρ := ρ) (j := 0) (i := i)
  rw [Nat.zero_add] at this
  exact this
theorem wbGo_len {rs : List Rv} {os : List Sl} : ∀ {ρ : Rho} {j : Nat}, (wbGo rs os j ρ).length = ρ.length
  | [], _ => rfl
  | _ :: ρ, j => by simp [wbGo, wbGo_len (ρ := ρ)]
theorem posOf_get : ∀ {rs : List Rv} {i k : Nat}, posOf rs i = some k → rs[k]? = some (.o i)
  | [], _, _, h => by simp [posOf] at h
  | .o j :: rs, i, k, h => by
    simp only [posOf] at h
    split at h
    · rename_i e; cases h; subst e; rfl
    · obtain ⟨a, h1, rfl⟩ := map_some h
      simpa using posOf_get h1
  | .d _ :: rs, i, k, h => by
    simp only [posOf] at h
    obtain ⟨a, h1, rfl⟩ := map_some h
    simpa using posOf_get h1
theorem posOf_of : ∀ {rs : List Rv} {i k : Nat}, oneEach rs = true → rs[k]? = some (.o i) → posOf rs i = some k
  | [], _, _, _, h => by simp at h
  | .o j :: rs, i, 0, _, h => by
    simp at h; subst h
    simp [posOf]
  | .o j :: rs, i, k + 1, o, h => by
    simp only [oneEach, Bool.and_eq_true] at o
    have q := posOf_of (k := k) o.2 (by simpa using h)
    have hj : j ≠ i := fun e => by
      subst e
      rw [q] at o
      exact absurd o.1 (by simp)
    simp only [posOf, if_neg hj, q]
    rfl
  | .d _ :: rs, i, 0, _, h => by simp at h
  | .d _ :: rs, i, k + 1, o, h => by
    simp only [oneEach] at o
    have q := posOf_of (k := k) o (by simpa using h)
    simp only [posOf, q]
    rfl
theorem allIn_of {Ts : List Nat} : ∀ {rs : List Rv} {i k : Nat}, allIn Ts rs = true → rs[k]? = some (.o i) → i ∈ Ts
  | [], _, _, _, h => by simp at h
  | .o j :: rs, i, 0, a, h => by
    simp at h; subst h
    simp only [allIn, Bool.and_eq_true] at a
    exact List.contains_iff_mem.mp a.1
  | .o j :: rs, i, k + 1, a, h => by
    simp only [allIn, Bool.and_eq_true] at a
    exact allIn_of (k := k) a.2 (by simpa using h)
  | .d _ :: rs, i, 0, _, h => by simp at h
  | .d _ :: rs, i, k + 1, a, h => by
    simp only [allIn] at a
    exact allIn_of (k := k) a (by simpa using h)
theorem argSls_len {ρ : Rho} : ∀ {rs : List Rv} {as : List Sl}, argSls ρ rs = some as → as.length = rs.length
  | [], _, e => by simp only [argSls] at e; cases e; rfl
  | r :: rs, _, e => by
    simp only [argSls] at e
    split at e
    · rename_i a as h1 h2
      cases e
      simp [argSls_len h2]
    · cases e
theorem argSls_get {ρ : Rho} : ∀ {rs : List Rv} {as : List Sl} {k : Nat} {r : Rv}, argSls ρ rs = some as → rs[k]? = some r → ∃ a, as[k]? = some a ∧ argSl ρ r = some a
  | [], _, _, _, _, h => by simp at h
  | r0 :: rs, _, k, r, e, h => by
    simp only [argSls] at e
    split at e
    · rename_i a as h1 h2
      cases e
      cases k with
      | zero => simp at h; subst h; exact ⟨a, rfl, h1⟩
      | succ k =>
        obtain ⟨b, h3, h4⟩ := argSls_get (k := k) h2 (by simpa using h)
        exact ⟨b, by simpa using h3, h4⟩
    · cases e
theorem rvs_get {K : Fg} {F : Hp} {σ : Sg} {ρ : Rho} : ∀ {vs : List V} {rs : List Rv} {k : Nat} {r : Rv}, RvsOk K F σ ρ vs rs → rs[k]? = some r → ∃ v, vs[k]? = some v ∧ RvOk K F σ ρ v r
  | _, _, _, _, .nil, h => by simp at h
  | _, _, 0, _, .cons a _, h => by simp at h; subst h; exact ⟨_, rfl, a⟩
  | _, _, k + 1, _, .cons _ t, h => by
    obtain ⟨v, h1, h2⟩ := rvs_get (k := k) t (by simpa using h)
    exact ⟨v, by simpa using h1, h2⟩
theorem rvs_len {K : Fg} {F : Hp} {σ : Sg} {ρ : Rho} : ∀ {vs : List V} {rs : List Rv}, RvsOk K F σ ρ vs rs → vs.length = rs.length
  | _, _, .nil => rfl
  | _, _, .cons _ t => by simp [rvs_len t]
noncomputable def fpArgs (rs : List Rv) (fp : FP) : FP := fun k => match rs[k]? with
  | some (.o i) => fp i
  | _ => []
theorem sg_map {vs : List V} {k : Nat} {v : V} (h : vs[k]? = some v) : sg (vs.map some) k = some v := by
  unfold sg
  rw [List.getElem?_map, h]
  rfl
section
variable {K : Fg} {F H : Hp} {σ : Sg} {ρ : Rho} {fp : FP} {vs : List V} {rs : List Rv} {args : List Sl}
theorem mem_fpArgs {k : Nat} {b : Addr} (h : b ∈ fpArgs rs fp k) : ∃ i, rs[k]? = some (.o i) ∧ b ∈ fp i := by
  unfold fpArgs at h
  split at h
  · rename_i i hi; exact ⟨i, hi, h⟩
  · cases h
theorem args_env (E : EnvOk K F H σ ρ fp) (r : RvsOk K F σ ρ vs rs) (ha : argSls ρ rs = some args) (ho : oneEach rs = true) : EnvOk K F H (vs.map some) args (fpArgs rs fp) := by
  have hl := argSls_len ha
  have hv := rvs_len r
  refine ⟨E.sub, by rw [List.length_map]; omega, fun k s hs => ?_, fun k hk => ?_, fun k => ?_, fun k l b h1 h2 => ?_, E.tb, fun j i p t h1 h2 => ?_⟩
  rotate_left 4
  · exfalso
    have hj : j < rs.length := by have := (List.getElem?_eq_some_iff.mp h1).1; omega
    obtain ⟨a, g1, g2⟩ := argSls_get ha (List.getElem?_eq_getElem hj)
    rw [h1] at g1; cases g1
    cases hr : rs[j] with
    | d x => rw [hr] at g2; simp only [argSl] at g2; cases g2
    | o i => rw [hr] at g2; simp only [argSl] at g2; split at g2 <;> cases g2
  · have hk : k < rs.length := by have := (List.getElem?_eq_some_iff.mp hs).1; omega
    obtain ⟨a, h1, h2⟩ := argSls_get ha (List.getElem?_eq_getElem hk)
    rw [h1] at hs; cases hs
    obtain ⟨v, h3, h4⟩ := rvs_get r (List.getElem?_eq_getElem hk)
    rw [sg_map h3]
    unfold fpArgs
    rw [List.getElem?_eq_getElem hk]
    cases hr : rs[k] with
    | d x =>
      rw [hr] at h2 h4
      simp only [argSl] at h2
      cases h2
      exact ⟨v, rfl, h4⟩
    | o i =>
      rw [hr] at h2 h4
      obtain ⟨hu, m, t, e⟩ := h4
      simp only [argSl, e] at h2
      cases h2
      obtain ⟨u, e1, e2⟩ := E.sl i _ e
      rw [hu] at e1; cases e1
      exact ⟨v, rfl, e2⟩
  · unfold fpArgs
    split
    · rename_i i hi
      exfalso
      obtain ⟨a, h1, h2⟩ := argSls_get ha hi
      simp only [argSl] at h2
      split at h2
      · rename_i m t e
        cases h2
        exact hk _ t h1
      · cases h2
    · rfl
  · unfold fpArgs
    split
    · exact E.nd _
    · exact List.nodup_nil
  · obtain ⟨i, hi, hb⟩ := mem_fpArgs h1
    obtain ⟨j, hj, hb'⟩ := mem_fpArgs h2
    have e := E.ap i j b hb hb'
    subst e
    have a := posOf_of ho hi
    have c := posOf_of ho hj
    rw [a] at c
    exact Option.some.inj c
noncomputable def fpBack (rs : List Rv) (fp fpA : FP) : FP := fun i => match posOf rs i with
  | some k => fpA k
  | none => fp i
theorem call_step {F' H' : Hp} {fpA : FP} {os : List Sl} {Ts : List Nat} (E : EnvOk K F H σ ρ fp) (r : RvsOk K F σ ρ vs rs) (ha : argSls ρ rs = some args) (ho : oneEach rs = true) (hT : allIn Ts rs = true)
    (s : Step K F H (vs.map some) args (fpArgs rs fp) F' H' (vs.map some) os fpA) (hos : ∀ (k : Nat) m t, args[k]? = some (Sl.own m t) → ∃ m' t', os[k]? = some (Sl.own m' t')) :
    EStep K Ts F H σ ρ fp F' H' (wb ρ rs os) (fpBack rs fp fpA) := by
  have oA : ∀ {b}, Owns (fpArgs rs fp) b → Owns fp b := fun {b} ⟨k, h⟩ => let ⟨i, _, hb⟩ := mem_fpArgs h; ⟨i, hb⟩
  -- at a slot that is handed in
  have inn : ∀ (i k : Nat), posOf rs i = some k → ∃ m t v m' t', ρ[i]? = some (Sl.own m t) ∧ sg σ i = some v ∧ vs[k]? = some v ∧ args[k]? = some (Sl.own m.arg t) ∧ os[k]? = some (Sl.own m' t') ∧ (wb ρ rs os)[i]? = some (Sl.own m t') ∧ TrOk K F' H' v t' (fpA k) := by
    intro i k hp
    have hk := posOf_get hp
    obtain ⟨v, h1, hu, m, t, e⟩ := rvs_get r hk
    obtain ⟨a, h2, h3⟩ := argSls_get ha hk
    simp only [argSl, e] at h3
    cases h3
    obtain ⟨m', t', h4⟩ := hos k _ t h2
    obtain ⟨u, e1, e2⟩ := s.env.sl k _ h4
    rw [sg_map h1] at e1; cases e1
    refine ⟨m, t, v, m', t', e, hu, h1, h2, h4, ?_, e2⟩
    rw [wb_get, e]
    simp only [Option.map_some, hp, h4, wb1]
  have outT : ∀ (i : Nat), posOf rs i = none → ∀ b ∈ fp i, H' b = H b ∧ F' b = none := by
    intro i hp b hb
    have hn : ¬ Owns (fpArgs rs fp) b := fun ⟨k, h⟩ => by
      obtain ⟨j, hj, hb'⟩ := mem_fpArgs h
      have e := E.ap i j b hb hb'
      subst e
      rw [posOf_of ho hj] at hp
      cases hp
    obtain ⟨h1, h2⟩ := E.there ⟨i, hb⟩
    constructor
    · cases q : H b with
      | none => exact absurd q h1
      | some o => exact s.frame b o q hn fun ps z => E.ntb ⟨i, hb⟩ ps (z ▸ q)
    · cases q : F' b with
      | none => rfl
      | some o =>
        rcases s.nf b h2 (by rw [q]; exact fun z => nomatch z) with z | z | z
        · exact absurd z h1
        · exact absurd z hn
        · exact absurd z (E.nkt ⟨i, hb⟩)
  have get0 : ∀ (i : Nat), posOf rs i = none → (wb ρ rs os)[i]? = ρ[i]? := by
    intro i hp
    rw [wb_get]
    cases ρ[i]? with
    | none => rfl
    | some x => simp [hp]
  refine ⟨⟨⟨s.env.sub, ?_, fun i u hu => ?_, fun i hi => ?_, fun i => ?_, fun i j b h1 h2 => ?_, s.env.tb, E.al' (fun j i p h => ?_) fun i p t h => ?_⟩, s.fr, fun b h h' => (s.nf b h h').imp_right (Or.imp_left oA), s.dom, fun b o h n => s.frame b o h (fun z => n (oA z)), fun b hb => ?_, fun i m t h hm => ?_, fun i t h => ?_⟩, fun i m t h => ?_, fun i hi => ?_⟩
  rotate_left 5
  · cases hp : posOf rs j with
    | some k =>
      obtain ⟨m, t, v, m', t', e1, e2, e3, e4, e5, e6, e7⟩ := inn j k hp
      rw [e6] at h; cases h
    | none => rw [get0 j hp] at h; exact ⟨h, rfl⟩
  · cases hp : posOf rs i with
    | some k =>
      obtain ⟨m, t0, v, m', t', e1, e2, e3, e4, e5, e6, e7⟩ := inn i k hp
      rw [e6] at h; cases h
      obtain ⟨_, l1, l2, l3⟩ := s.lock k t0 e4
      rw [l1] at e5; cases e5
      have ek : fpArgs rs fp k = fp i := by unfold fpArgs; rw [posOf_get hp]
      exact ⟨e1, rfl, fun b hb => l3 b (by rw [ek]; exact hb)⟩
    | none => rw [get0 i hp] at h; exact ⟨h, rfl, fun b hb => (outT i hp b hb).1⟩
  rotate_right 5
  · unfold wb; rw [wbGo_len]; exact E.len
  · cases hp : posOf rs i with
    | some k =>
      obtain ⟨m, t, v, m', t', e1, e2, e3, e4, e5, e6, e7⟩ := inn i k hp
      rw [e6] at hu; cases hu
      unfold fpBack
      rw [hp, e2]
      exact ⟨v, rfl, e7⟩
    | none =>
      rw [get0 i hp] at hu
      unfold fpBack
      rw [hp]
      have q := E.sl i u hu
      cases u with
      | no => trivial
      | al _ _ => trivial
      | val d => obtain ⟨v, e1, e2⟩ := q; exact ⟨v, e1, dq_mono s.fr _ _ e2⟩
      | own m t => obtain ⟨v, e1, e2⟩ := q; exact ⟨v, e1, e2.move s.fr (outT i hp)⟩
  · unfold fpBack
    cases hp : posOf rs i with
    | some k =>
      obtain ⟨m, t, v, m', t', e1, e2, e3, e4, e5, e6, e7⟩ := inn i k hp
      exact absurd e6 (hi m t')
    | none =>
      refine E.nil i fun m t z => hi m t ?_
      rw [get0 i hp]; exact z
  · unfold fpBack
    split
    · exact s.env.nd _
    · exact E.nd i
  · have cross : ∀ (i j k : Nat), posOf rs i = some k → posOf rs j = none → b ∈ fpA k → b ∈ fp j → False := by
      intro i j k hi hj h1 h2
      rcases s.own b ⟨k, h1⟩ with ⟨l, z⟩ | z
      · obtain ⟨i', hi', hb'⟩ := mem_fpArgs z
        have e := E.ap j i' b h2 hb'
        subst e
        rw [posOf_of ho hi'] at hj
        cases hj
      · exact (E.there ⟨j, h2⟩).1 z
    unfold fpBack at h1 h2
    cases hi : posOf rs i with
    | some k =>
      rw [hi] at h1
      cases hj : posOf rs j with
      | some l =>
        rw [hj] at h2
        have e := s.env.ap k l b h1 h2
        subst e
        have a := posOf_get hi
        have c := posOf_get hj
        rw [a] at c
        cases c
        rfl
      | none => rw [hj] at h2; exact (cross i j k hi hj h1 h2).elim
    | none =>
      rw [hi] at h1
      cases hj : posOf rs j with
      | some l => rw [hj] at h2; exact (cross j i l hj hi h2 h1).elim
      | none => rw [hj] at h2; exact E.ap i j b h1 h2
  · obtain ⟨i, h⟩ := hb
    unfold fpBack at h
    cases hi : posOf rs i with
    | some k => rw [hi] at h; exact (s.own b ⟨k, h⟩).imp_left oA
    | none => rw [hi] at h; exact .inl ⟨i, h⟩
  · cases hp : posOf rs i with
    | some k =>
      obtain ⟨m0, t0, v, m', t', e1, e2, e3, e4, e5, e6, e7⟩ := inn i k hp
      rw [h] at e1; cases e1
      exact ⟨rfl, _, t', e6, hm⟩
    | none => exact ⟨rfl, m, t, by rw [get0 i hp]; exact h, hm⟩
  · cases hp : posOf rs i with
    | some k =>
      obtain ⟨m, t0, v, m', t', e1, e2, e3, e4, e5, e6, e7⟩ := inn i k hp
      rw [h] at e1; cases e1
      obtain ⟨_, l1, l2, l3⟩ := s.lock k t e4
      rw [l1] at e5; cases e5
      have ek : fpArgs rs fp k = fp i := by unfold fpArgs; rw [posOf_get hp]
      refine ⟨rfl, e6, ?_, fun b hb => l3 b (by rw [ek]; exact hb)⟩
      unfold fpBack
      rw [hp]
      exact l2.trans ek
    | none =>
      refine ⟨rfl, by rw [get0 i hp]; exact h, ?_, fun b hb => (outT i hp b hb).1⟩
      unfold fpBack
      rw [hp]
  · cases hp : posOf rs i with
    | some k =>
      obtain ⟨m0, t0, v, m', t', e1, e2, e3, e4, e5, e6, e7⟩ := inn i k hp
      rw [h] at e1; cases e1
      exact ⟨t', e6⟩
    | none => exact ⟨t, by rw [get0 i hp]; exact h⟩
  · cases hp : posOf rs i with
    | some k => exact absurd (allIn_of hT (posOf_get hp)) hi
    | none =>
      refine ⟨get0 i hp, ?_, fun b hb => (outT i hp b hb).1⟩
      unfold fpBack
      rw [hp]
theorem call_new {F' H' : Hp} {fpA : FP} {v : V} {t : Tr} {A : List Addr} (E : EnvOk K F H σ ρ fp) (ho : oneEach rs = true) (n : NewOk K H (fpArgs rs fp) F' H' fpA v t A) : NewOk K H fp F' H' (fpBack rs fp fpA) v t A := by
  refine ⟨n.ok, n.nd, fun b hb => (n.new b hb).imp_right fun ⟨k, h⟩ => let ⟨i, _, z⟩ := mem_fpArgs h; ⟨i, z⟩, fun b hb z => ?_⟩
  obtain ⟨i, h⟩ := z
  unfold fpBack at h
  cases hp : posOf rs i with
  | some k => rw [hp] at h; exact n.out b hb ⟨k, h⟩
  | none =>
    rw [hp] at h
    rcases n.new b hb with z | ⟨k, z⟩
    · exact (E.there ⟨i, h⟩).1 z
    · obtain ⟨j, hj, hb'⟩ := mem_fpArgs z
      have e := E.ap i j b h hb'
      subst e
      rw [posOf_of ho hj] at hp
      cases hp
end
noncomputable def backOk : List Sl → List Sl → Bool
  | [], _ => true
  | .own _ _ :: as, .own _ _ :: os => backOk as os
  | .own _ _ :: _, _ => false
  | _ :: as, _ :: os => backOk as os
  | _ :: _, [] => false
theorem backOk_get : ∀ {as os : List Sl} {k : Nat} {m : Md} {t : Tr}, backOk as os = true → as[k]? = some (.own m t) → ∃ m' t', os[k]? = some (.own m' t')
  | [], _, _, _, _, _, h => by simp at h
  | .own m0 t0 :: as, .own m1 t1 :: os, 0, _, _, _, _ => ⟨m1, t1, rfl⟩
  | .own m0 t0 :: as, .own m1 t1 :: os, k + 1, _, _, b, h => by
    simp only [backOk] at b
    obtain ⟨m', t', e⟩ := backOk_get (k := k) b (by simpa using h)
    exact ⟨m', t', by simpa using e⟩
  | .own _ _ :: _, .no :: _, _, _, _, b, _ => by simp [backOk] at b
  | .own _ _ :: _, .val _ :: _, _, _, _, b, _ => by simp [backOk] at b
  | .own _ _ :: _, .al _ _ :: _, _, _, _, b, _ => by simp [backOk] at b
  | .own _ _ :: _, [], _, _, _, b, _ => by simp [backOk] at b
  | .al _ _ :: as, o :: os, 0, _, _, _, h => by simp at h
  | .al _ _ :: as, o :: os, k + 1, _, _, b, h => by
    have b' : backOk as os = true := by cases o <;> simpa [backOk] using b
    obtain ⟨m', t', e⟩ := backOk_get (k := k) b' (by simpa using h)
    exact ⟨m', t', by simpa using e⟩
  | .al _ _ :: _, [], _, _, _, b, _ => by simp [backOk] at b
  | .no :: as, o :: os, 0, _, _, _, h => by simp at h
  | .val _ :: as, o :: os, 0, _, _, _, h => by simp at h
  | .no :: as, o :: os, k + 1, _, _, b, h => by
    have b' : backOk as os = true := by cases o <;> simpa [backOk] using b
    obtain ⟨m', t', e⟩ := backOk_get (k := k) b' (by simpa using h)
    exact ⟨m', t', by simpa using e⟩
  | .val _ :: as, o :: os, k + 1, _, _, b, h => by
    have b' : backOk as os = true := by cases o <;> simpa [backOk] using b
    obtain ⟨m', t', e⟩ := backOk_get (k := k) b' (by simpa using h)
    exact ⟨m', t', by simpa using e⟩
  | .no :: _, [], _, _, _, b, _ => by simp [backOk] at b
  | .val _ :: _, [], _, _, _, b, _ => by simp [backOk] at b
noncomputable def callN (Ts : List Nat) (m : Nat) (f : Fn) (rs : List Rv) : M Tr := fun ρ => match argSls ρ rs with
  | some args => if decide (rs.length = m) && (oneEach rs && allIn Ts rs) then (match f args with
    | some (.ret t, outs) => if backOk args (mrg args outs) then some (.ok t (wb ρ rs (mrg args outs))) else none
    | _ => none) else none
  | none => none
noncomputable def nCall (Ts : List Nat) (m : Nat) (f : Fn) (fs : M (List Rv)) : M Tr := bnd fs (callN Ts m f)
section
variable {X : Cx} {T : List Nat} {W : WV} {k m : Nat} {f : Addr} {fd : FuncData} {ps : List Str} {F : Fn} {x : Str} {p pos : Pos} {e : Expr} {es : List Expr} {fs : M (List Rv)} {Ts : List Nat}
theorem vn_call (G : FnOk X.prog X.w X.K X.mg X.base CX0 k f fd ps (spV X.K Wx0 m F)) (hr : Room k X.A) (hg : Gl X x) (hm : X.mg x = some (.ref f)) (hk : PySem.W.keepIn X.K (.ref f) = true) (hb : Binds X.K fd ps [])
    (ha : VA X T W (e :: es) fs) (hdb : (x == ("__debug__" : Str)) = false := by decide) (he : starEach (e :: es) X.env = (false, eval e X.env) :: starEach es X.env := by rfl) (hpl : (backTo pos (starEach es X.env)).any (·.1) = false := by rfl) :
    VN X (T ++ Ts) W (.Call (.Name x p) (e :: es) [] pos) (nCall Ts m F fs) :=
  pe_imp (pe_call G hr hg hm hk hb .nil pass0 ha hdb he hpl) fun σ H Q ⟨F0, ρ, fp, o, E, q, P⟩ => by
    refine tv_bnd (T := T) E q P (fun i hi => List.mem_append_left _ hi) fun rs ρ1 vs H1 F1 fp1 s1 r1 e1 P1 => ?_
    rw [List.append_nil]
    unfold callN at e1
    split at e1
    · rename_i args hargs
      split at e1
      · rename_i ho
        rw [Bool.and_eq_true, Bool.and_eq_true] at ho
        split at e1
        · rename_i t outs hf
          split at e1
          · rename_i hbk
            cases ok_inj e1
            refine ⟨?_, F1, args, fpArgs rs fp1, _, outs, args_env s1.env r1 hargs ho.2.1, hf, fun v A H' F' fp' st n => ?_⟩
            · rw [rvs_len r1]; exact of_decide_eq_true ho.1
            · have s2 := call_step (Ts := Ts) s1.env r1 hargs ho.2.1 ho.2.2 st fun k m t h => backOk_get hbk h
              exact P1 v H' F' _ (s2.sub fun i hi => List.mem_append_right _ hi) ⟨A, call_new s1.env ho.2.1 n⟩
          · cases e1
        · cases e1
      · cases e1
    · cases e1
end
end VL

end

section
set_option Elab.async false
set_option linter.all false
set_option maxRecDepth 100000
namespace VL
open PySem PySem.Spec PyProof.Rows L2

set_option maxHeartbeats 1000000 in
theorem meets_enum1 {v : Value} {o : Obj} {H : Heap → Prop} (B : Begins v o H) :
    Meets (Builtin.«enumerate.__new__» ⟨[.type "enumerate", v], []⟩) (fun _ R s => H s.heap ∧
      R (.ok (.ret (.ref (s.heap.push o).objs.size))) { s with heap := (s.heap.push o).push { cls := .type "enumerate", data := .fields #[.none, .bool false, .ref s.heap.objs.size, rawInt 0, .none, .none] } }) :=
  .of_wp fun prog w A R s h => by
    obtain ⟨hp, g, d, tk, os⟩ := s; obtain ⟨h1, h⟩ := h
    have hsub := sub_enumerate
    have q1 : ∀ {A' : Around} {E : Value → Shared → Prop} {Q : Value → Shared → Prop}, Q (.ref hp.objs.size) ⟨hp.push o, g, d, tk, os⟩ → wpAny (model prog w) A' (pyIter v) Q E ⟨hp, g, d, tk, os⟩ :=
      fun q => B.iter prog w _ _ ⟨hp, g, d, tk, os⟩ _ h1 q
    wp_walk using q1
    refine wpAny_stack_any fun st => wpAny_pure ?_
    split
    · rename_i c _ _ _ _ _
      cases (c == Value.type "enumerate")
      · wp_walk using q1
        exact ⟨_, rfl, h⟩
      · wp_walk using q1
        exact ⟨_, rfl, h⟩
    · wp_walk using q1
      exact ⟨_, rfl, h⟩
theorem enum1_begins {prog : Program} {w : World} {A : Around} {E : Value → Shared → Prop} {s : Shared} {v : Value} {o : Obj} {H : Heap → Prop} {Q : Value → Shared → Prop} (B : Begins v o H) (h1 : H s.heap)
    (h : ∀ h', IsEnum h' (s.heap.objs.size + 1) s.heap.objs.size 0 .none → h'.get? s.heap.objs.size = some o → h'.objs.size = s.heap.objs.size + 2 →
      (∀ b o, s.heap.get? b = some o → h'.get? b = some o) → Q (.ref (s.heap.objs.size + 1)) { s with heap := h' }) :
    wpAny (model prog w) A (call (.type "enumerate") [v]) Q E s := by
  refine callType_new F.called_enumerate (by decide) (F.typeCall_enumerate_1 _) (F.newCall_enumerate_1 _) (fun obj => F.args_object_init_2 obj _) F.entry_enumerate_new
    (meets_enum1 B) ⟨h1, ?_⟩
  have hz : (s.heap.push o).objs.size = s.heap.objs.size + 1 := Heap.size_push ..
  show _ ∧ _
  rw [hz]
  have he : IsEnum ((s.heap.push o).push { cls := .type "enumerate", data := .fields #[.none, .bool false, .ref s.heap.objs.size, rawInt 0, .none, .none] }) (s.heap.objs.size + 1) s.heap.objs.size 0 .none := by
    have := Heap.get?_push_size (s.heap.push o) (o := { cls := .type "enumerate", data := .fields #[.none, .bool false, .ref s.heap.objs.size, rawInt 0, .none, .none] }) rfl
    rw [hz] at this; exact this
  refine ⟨⟨_, he, rfl⟩, h _ he (Heap.get?_push_of_some _ (Heap.get?_push_size _ B.free)) (by rw [Heap.size_push, hz]) fun b o x => Heap.get?_push_of_some _ (Heap.get?_push_of_some _ x)⟩
noncomputable def IteT (K : PySem.W.Frag) (a : Addr) : It :=
  ⟨fun i H => ∃ (xs : List V) (x : V), SqT K H a xs ∧ xs[i]? = some x, fun i H v H' => ∃ T x, v = .ref T ∧ H T = none ∧ H' = upd H T (.tup [.int (i : Nat), x]) ∧ ∀ xs, SqT K H a xs → xs[i]? = some x, fun i H => ∃ xs : List V, SqT K H a xs ∧ xs.length = i⟩
theorem turn_enumT {P : Program} {w : World} {K : PySem.W.Frag} {elts : List Expr} {kk : Nat} {tpos : Pos} (a e it : Addr) (hae : a ≠ e) (hai : a ≠ it) :
    Turn P w K (.Tuple elts kk tpos) (IteT K a) [e, it] e (fun i h => (∃ old, IsEnum h e it ((i : Nat) : Int) old) ∧ h.IsTupleIter it a i ∧ e ≠ it) where
  mem := by simp
  obj := fun i h st b hb => by
    obtain ⟨⟨old, he⟩, ⟨o, ho, hc, hd⟩, _⟩ := st
    have e' : b = e ∨ b = it := by simpa using hb
    rcases e' with z | z
    · rw [z]; exact ⟨_, he, fun v q => nomatch q⟩
    · rw [z]; exact ⟨o, ho, fun v q => by rw [hd] at q; cases q⟩
  keep := fun i h h' st k => let ⟨⟨old, he⟩, hi, hne⟩ := st; ⟨⟨old, k e (by simp) _ he⟩, hi.at fun o q => k it (by simp) o q, hne⟩
  item := by
    intro X hP hw hK hc i pins s σ H E I hf st hg
    subst hP hw hK
    obtain ⟨⟨old, he⟩, hit, hne⟩ := st
    obtain ⟨xs, x, hq, hx⟩ := hg
    obtain ⟨its, rv, p, hz⟩ := I.tuple hq
    obtain ⟨u, hu, ru⟩ := rv.get hx
    have hel : e < s.heap.objs.size := Heap.lt_size he
    have hil : it < s.heap.objs.size := by obtain ⟨_, q, _⟩ := hit; exact Heap.lt_size q
    have hi : i < its.toArray.size := by
      have := (List.getElem?_eq_some_iff.mp hu).1
      simpa using this
    have D := Draws.tuple (prog := X.prog) (w := X.w) (A := X.A.in1) (I.ok.hd hc) it a hai its.toArray
    refine wpAny_pyNext_enum_itemD D he ⟨hit, p⟩ hi hne (by simp [hne, Ne.symm hae]) fun u' h' tk hP ho hst hT hsz hk => ?_
    have hu' : u' = u := by
      have : its.toArray[i]? = some u := by simpa using hu
      rw [this] at hP
      exact (Option.some.inj hP).symm
    subst hu'
    refine ⟨_, rfl, wpAny_letOwnedTupleGo_enum (s := { s with heap := h', toks := tk + 1 }) ho fun h'' he' sb => ?_⟩
    have hT2 : h''.get? s.heap.objs.size = some { cls := .type "tuple", data := .seq #[.int i tk, u'] } := (sb.2 _ (Nat.ne_of_gt hel)).trans hT
    have new : ObjOk X.prog X.w (upd H s.heap.objs.size (.tup [.int (i : Nat), x])) h'' s.heap.objs.size (.tup [.int (i : Nat), x]) :=
      ⟨by show 2 ≤ sizeLine; decide, [.int i tk, u'], .cons ⟨_, rfl⟩ (.cons ru .nil), ⟨_, hT2, rfl, _, rfl⟩⟩
    have I1 : Inv X pins σ (upd H s.heap.objs.size (.tup [.int (i : Nat), x])) { s with heap := h'', toks := tk + 1 } :=
      I.turnedNew (ch := [e, it]) (fun b ob hb q => (sb.2 b (fun z => hb (by simp [z]))).trans (hk b ob (fun z => hb (by simp [z])) (fun z => hb (by simp [z])) q)) hf (Nat.le_refl _) new
    refine ⟨.ref s.heap.objs.size, _, I1, rfl, ⟨_, x, rfl, I.hok.fresh (Nat.le_refl _), rfl, fun ys hy => by rw [I.tuple_inj hy hq]; exact hx⟩, ⟨⟨u', ?_⟩, hst.1.at fun o q => (sb.2 it (Ne.symm hne)).trans q, hne⟩, fun b hb => ?_⟩
    · have e1 : ((i + 1 : Nat) : Int) = (i : Int) + 1 := by omega
      rw [e1]; exact he'
    · have hb' : b < s.heap.objs.size := by
        have e' : b = e ∨ b = it := by simpa using hb
        rcases e' with z | z
        · rw [z]; exact hel
        · rw [z]; exact hil
      rw [upd_ne (Nat.ne_of_lt hb')]
      exact (hf b hb).1
  done := by
    intro X hP hw hK hc i pins s σ H E I hf st hg
    subst hP hw hK
    obtain ⟨⟨old, he⟩, hit, hne⟩ := st
    obtain ⟨xs, hq, hx⟩ := hg
    obtain ⟨its, rv, p, hz⟩ := I.tuple hq
    obtain ⟨f0, f1, f2, f3, f4, f5⟩ := hf it (by simp)
    have hl := rv.length
    have D := Draws.tuple (prog := X.prog) (w := X.w) (A := X.A.in1) (I.ok.hd hc) it a hai its.toArray
    have hn : its.toArray.size = i := by simp; omega
    exact wpAny_pyNext_enum_endD D he (by rw [hn]; exact ⟨hit, p⟩) fun h' eb => ⟨rfl, I.turned (t' := s.toks) (fun b o hb q => eb b o hb q) f0 f1 f3 f4 f5⟩
  self := fun A i s Q E st h => let ⟨⟨_, he⟩, _⟩ := st; wpAny_pyIter_enum he h
noncomputable def iEnumT0 (K : PySem.W.Frag) (ta : TA) : TI := fun σ H R => ta σ H fun vs H1 => ∃ a xs, vs = [.ref a] ∧ SqT K H1 a xs ∧ R (IteT K a) H1
theorem pi_enumT {X : Cx} {e : Expr} {ta : TA} {p pos tpos : Pos} {elts : List Expr} {kk : Nat} (hg : Gl X "enumerate") (hm : X.mg "enumerate" = none) (ha : PA X [e] ta) (hs : starEach [e] X.env = [(false, eval e X.env)] := by rfl) :
    PI X (.Tuple elts kk tpos) (.Call (.Name "enumerate" p) [e] [] pos) (iEnumT0 X.K ta) := by
  refine ⟨fun pins s σ H R I h => ?_⟩
  refine Call_ (ld_blt I hg hm boot_enumerate (PyProof.Rows.callWith_type1 (thn (ha.run pos pins s σ H _ I h) fun us s1 ⟨vs, H1, I1, r1, q1⟩ => ?_) hs rfl))
  obtain ⟨a, xs, ex, hq, q⟩ := q1
  subst ex
  cases r1 with
  | cons r rr =>
    cases rr
    cases r
    obtain ⟨its, rv, p', hz⟩ := I1.tuple hq
    refine enum1_begins (begins_tuple a its.toArray) p' fun h' he hit hsz hk => wpAny_pyIter_enum he ?_
    have I2 : Inv X pins σ H1 { s1 with heap := h' } := I1.kept (t' := s1.toks) hk
    have hal : a < s1.heap.objs.size := p'.lt
    refine ⟨s1.heap.objs.size + 1, [s1.heap.objs.size + 1, s1.heap.objs.size], _, _, H1, rfl, I2, turn_enumT a (s1.heap.objs.size + 1) s1.heap.objs.size (Nat.ne_of_lt (Nat.lt_succ_of_lt hal)) (Nat.ne_of_lt hal), ⟨⟨.none, he⟩, ⟨_, hit, rfl, rfl⟩, Nat.succ_ne_self _⟩, fun b hb => ?_, q⟩
    have e' : b = s1.heap.objs.size + 1 ∨ b = s1.heap.objs.size := by simpa using hb
    have hle : s1.heap.objs.size ≤ b := by
      rcases e' with z | z
      · rw [z]; exact Nat.le_add_right _ _
      · rw [z]; exact Nat.le_refl _
    exact I1.fpOk hle (I1.hok.fresh hle)
theorem walk_enumT {K : PySem.W.Frag} {a : Addr} {xs : List V} : Walk (IteT K a) xs.length (fun H => SqT K H a xs) (YPair (fun i => some (.int (i : Nat))) (fun i => xs[i]?)) :=
  ⟨fun i H hi q => ⟨xs, xs[i], q, by simp [hi]⟩, fun H q => ⟨xs, q, rfl⟩, fun i H v H' _ q ⟨T, x, e1, e2, e3, y⟩ => ⟨T, _, x, e1, e2, e3, rfl, y xs q⟩⟩
section
variable {X : Cx} {T : List Nat} {W : WV} {pos : Pos}
noncomputable def iEnumD (f : M (List Rv)) : M (List PyData) := bnd f fun rs => fun ρ => match rs with
  | [.d (.list xs)] => some (.ok (enumD xs) ρ)
  | [.d (.tuple xs)] => some (.ok (enumD xs) ρ)
  | _ => none
theorem vi_enum {a : Expr} {elts : List Expr} {kk : Nat} {tpos : Pos} {fs : M (List Rv)} {p : Pos} (hg : Gl X "enumerate") (hm : X.mg "enumerate" = none) (ha : VA X T W [a] fs) (hs : starEach [a] X.env = [(false, eval a X.env)] := by rfl) :
    VI X T W (.Tuple elts kk tpos) (.Call (.Name "enumerate" p) [a] [] pos) (iEnumD fs) := by
  refine ⟨_, pi_or (pi_enum hg hm ha hs) (pi_enumT hg hm ha hs), fun σ H R F ρ fp o E q P => ?_⟩
  unfold iEnumD bnd at q
  cases hf : fs ρ with
  | none => rw [hf] at q; cases q
  | some r =>
    rw [hf] at q
    cases r with
    | ex c ρ1 => cases q; exact .inl ⟨F, ρ, fp, _, E, hf, fun H1 F1 fp1 s1 => P H1 F1 fp1 s1⟩
    | ok rs ρ1 =>
      simp only at q
      split at q
      · rename_i xs
        cases q
        refine .inl ⟨F, ρ, fp, _, E, hf, fun vs H1 F1 fp1 s1 r1 => ?_⟩
        cases r1 with
        | cons h t =>
          cases t
          cases h with
          | @lst a0 vs0 _ hs ha =>
            have w0 := walk_enum (K := X.K) (a := a0) (xs := vs0)
            rw [dqAll_len ha, ← enumD_len] at w0
            refine ⟨_, _, rfl, .inl (rd_mono s1.env.sub hs), P _ _ _ H1 F1 fp1 s1 w0 (fun F2 H2 a b => .inl (rd_mono (a.trans b) hs)) fun i F2 H2 x H3 hi a b y => ?_⟩
            obtain ⟨Tn, x1, y1, rfl, hn, e3, hx, hy⟩ := y
            rw [enumD_len] at hi
            obtain ⟨v, hv, dv⟩ := dqAll_get ha (List.getElem?_eq_getElem hi)
            have hy : vs0[i]? = some y1 := hy
            rw [hv] at hy; cases hy
            cases hx
            obtain ⟨F3, g3, d3⟩ := pair_ok (K := X.K) (v := .non) b hn e3 (.int _) (dq_mono a _ _ dv)
            exact ⟨F3, _, enumD_get (List.getElem?_eq_getElem hi), g3, d3⟩
      · rename_i xs
        cases q
        refine .inr ⟨F, ρ, fp, _, E, hf, fun vs H1 F1 fp1 s1 r1 => ?_⟩
        cases r1 with
        | cons h t =>
          cases t
          cases h with
          | @tups a0 vs0 _ hs ha =>
            have w0 := walk_enumT (K := X.K) (a := a0) (xs := vs0)
            rw [dqAll_len ha, ← enumD_len] at w0
            refine ⟨_, _, rfl, (hs.mono s1.env.sub).sq, P _ _ _ H1 F1 fp1 s1 w0 (fun F2 H2 a b => (hs.mono (a.trans b)).sq) fun i F2 H2 x H3 hi a b y => ?_⟩
            obtain ⟨Tn, x1, y1, rfl, hn, e3, hx, hy⟩ := y
            rw [enumD_len] at hi
            obtain ⟨v, hv, dv⟩ := dqAll_get ha (List.getElem?_eq_getElem hi)
            have hy : vs0[i]? = some y1 := hy
            rw [hv] at hy; cases hy
            cases hx
            obtain ⟨F3, g3, d3⟩ := pair_ok (K := X.K) (v := .non) b hn e3 (.int _) (dq_mono a _ _ dv)
            exact ⟨F3, _, enumD_get (List.getElem?_eq_getElem hi), g3, d3⟩
      · cases q
end

noncomputable def zipD (xs ys : List PyData) : List PyData := (xs.zip ys).map fun p => .tuple [p.1, p.2]
section
variable {X : Cx} {T : List Nat} {W : WV} {pos : Pos}
noncomputable def iZipD (f : M (List Rv)) : M (List PyData) := bnd f fun rs => fun ρ => match rs with
  | [.d (.list xs), .d (.list ys)] => some (.ok (zipD xs ys) ρ)
  | [.d (.tuple xs), .d (.tuple ys)] => some (.ok (zipD xs ys) ρ)
  | _ => none
end
end VL

end

section
set_option Elab.async false
set_option linter.all false
set_option maxRecDepth 100000
namespace VL
open PySem PySem.Spec PyProof.Rows L2

noncomputable def wipeR (ρ : Rho) : List Nat → Rho
  | [] => ρ
  | i :: vs => (wipeR ρ vs).set i .no
noncomputable def noOwn (ρ : Rho) : List Nat → Bool
  | [] => true
  | i :: vs => (match ρ[i]? with
    | some (.own _ _) => false
    | some (.al _ _) => false
    | _ => true) && noOwn ρ vs
noncomputable def restR (ρ0 ρ : Rho) : List Nat → Rho
  | [] => ρ
  | i :: vs => match ρ0[i]? with
    | some s => (restR ρ0 ρ vs).set i s
    | none => restR ρ0 ρ vs
noncomputable def compGo (vs : List Nat) (G : MG) (tt : M Bool) (te : M Rv) : List PyData → List PyData → Rho → Option (List PyData × Rho)
  | [], acc, ρ => some (acc, ρ)
  | x :: xs, acc, ρ => match G x ρ with
    | none => none
    | some ρ1 => match tt ρ1 with
      | some (.ok true ρ2) => (match te ρ2 with
        | some (.ok (.d d) ρ3) => if small (acc.length + 1) && noOwn ρ3 vs then compGo vs G tt te xs (acc ++ [d]) (wipeR ρ3 vs) else none
        | _ => none)
      | some (.ok false ρ2) => if noOwn ρ2 vs then compGo vs G tt te xs acc (wipeR ρ2 vs) else none
      | _ => none
noncomputable def comp1 (vs : List Nat) (G : MG) (tt : M Bool) (te : M Rv) (xs : List PyData) : M Tr := fun ρ =>
  if noOwn ρ vs then (match compGo vs G tt te xs [] (wipeR ρ vs) with
    | some (ds, ρ') => if noOwn ρ' vs then some (.ok (.lst (ds.map .dat)) (restR ρ ρ' vs)) else none
    | none => none) else none
noncomputable def nComp (fi : M (List PyData)) (vs : List Nat) (G : MG) (tt : M Bool) (te : M Rv) : M Tr := bnd fi (comp1 vs G tt te)
noncomputable def tYesM : M Bool := ret true

theorem wipeR_len {ρ : Rho} : ∀ {vs : List Nat}, (wipeR ρ vs).length = ρ.length
  | [] => rfl
  | i :: vs => by unfold wipeR; rw [List.length_set, wipeR_len (vs := vs)]
theorem wipeR_out {ρ : Rho} {j : Nat} : ∀ {vs : List Nat}, j ∉ vs → (wipeR ρ vs)[j]? = ρ[j]?
  | [], _ => rfl
  | i :: vs, h => by
    unfold wipeR
    rw [List.getElem?_set_ne fun z => h (by simp [z])]
    exact wipeR_out fun z => h (List.mem_cons_of_mem _ z)
theorem wipeR_in {ρ : Rho} {j : Nat} {s : Sl} : ∀ {vs : List Nat}, j ∈ vs → (wipeR ρ vs)[j]? = some s → s = .no
  | i :: vs, h, e => by
    unfold wipeR at e
    by_cases hij : i = j
    · subst hij
      by_cases hl : i < (wipeR ρ vs).length
      · rw [List.getElem?_set_self hl] at e; exact (Option.some.inj e).symm
      · rw [List.getElem?_eq_none (by simpa using hl)] at e; cases e
    · rw [List.getElem?_set_ne hij] at e
      rcases List.mem_cons.mp h with z | z
      · exact absurd z.symm hij
      · exact wipeR_in z e
theorem noOwn_get {ρ : Rho} {j : Nat} : ∀ {vs : List Nat}, noOwn ρ vs = true → j ∈ vs → ∀ m t, ρ[j]? ≠ some (.own m t)
  | i :: vs, h, hj, m, t, e => by
    unfold noOwn at h
    rw [Bool.and_eq_true] at h
    rcases List.mem_cons.mp hj with z | z
    · subst z
      rw [e] at h
      exact absurd h.1 Bool.false_ne_true
    · exact noOwn_get h.2 z m t e
theorem noOwn_al {ρ : Rho} {j : Nat} : ∀ {vs : List Nat}, noOwn ρ vs = true → j ∈ vs → ∀ i p, ρ[j]? ≠ some (.al i p)
  | i :: vs, h, hj, m, t, e => by
    unfold noOwn at h
    rw [Bool.and_eq_true] at h
    rcases List.mem_cons.mp hj with z | z
    · subst z
      rw [e] at h
      exact absurd h.1 Bool.false_ne_true
    · exact noOwn_al h.2 z m t e
theorem restR_len {ρ0 ρ : Rho} : ∀ {vs : List Nat}, (restR ρ0 ρ vs).length = ρ.length
  | [] => rfl
  | i :: vs => by
    unfold restR
    split
    · rw [List.length_set, restR_len (vs := vs)]
    · exact restR_len (vs := vs)
theorem restR_out {ρ0 ρ : Rho} {j : Nat} : ∀ {vs : List Nat}, j ∉ vs → (restR ρ0 ρ vs)[j]? = ρ[j]?
  | [], _ => rfl
  | i :: vs, h => by
    unfold restR
    split
    · rw [List.getElem?_set_ne fun z => h (by simp [z])]
      exact restR_out fun z => h (List.mem_cons_of_mem _ z)
    · exact restR_out fun z => h (List.mem_cons_of_mem _ z)
theorem restR_in {ρ0 ρ : Rho} {j : Nat} (hl : ρ0.length = ρ.length) : ∀ {vs : List Nat}, j ∈ vs → (restR ρ0 ρ vs)[j]? = ρ0[j]?
  | i :: vs, h => by
    unfold restR
    by_cases hij : i = j
    · subst hij
      cases q : ρ0[i]? with
      | some s =>
        have hi := (List.getElem?_eq_some_iff.mp q).1
        simp only
        rw [List.getElem?_set_self (by rw [restR_len]; omega)]
      | none =>
        simp only
        rw [List.getElem?_eq_none_iff] at q
        rw [List.getElem?_eq_none (by rw [restR_len]; omega)]
    · have hj : j ∈ vs := by
        rcases List.mem_cons.mp h with z | z
        · exact absurd z.symm hij
        · exact z
      split
      · rw [List.getElem?_set_ne hij]
        exact restR_in hl hj
      · exact restR_in hl hj
theorem wipe_out {σ : Sg} {j : Nat} : ∀ {vs : List Nat}, j ∉ vs → sg (wipe σ vs) j = sg σ j
  | [], _ => rfl
  | i :: vs, h => by
    unfold wipe
    rw [sg_set_ne fun z => h (by simp [z])]
    exact wipe_out fun z => h (List.mem_cons_of_mem _ z)
theorem get_of_sg {σ σ' : Sg} (hl : σ'.length = σ.length) {j : Nat} (h : sg σ' j = sg σ j) : σ'[j]? = σ[j]? := by
  unfold sg at h
  by_cases hj : j < σ.length
  · rw [List.getElem?_eq_getElem hj, List.getElem?_eq_getElem (by omega)] at h ⊢
    simpa using h
  · rw [List.getElem?_eq_none (by omega), List.getElem?_eq_none (by omega)]
theorem wipe_get {σ : Sg} {j : Nat} : ∀ {vs : List Nat}, (wipe σ vs)[j]? = if j ∈ vs ∧ j < σ.length then some none else σ[j]?
  | [] => by simp [wipe]
  | i :: vs => by
    unfold wipe
    by_cases hij : i = j
    · subst hij
      by_cases hl : i < σ.length
      · rw [List.getElem?_set_self (by rw [wipe_length]; exact hl), if_pos ⟨by simp, hl⟩]
      · rw [if_neg fun z => hl z.2, List.getElem?_eq_none (by rw [List.length_set, wipe_length]; omega), List.getElem?_eq_none (by omega)]
    · rw [List.getElem?_set_ne hij, wipe_get (vs := vs)]
      have e : (j ∈ i :: vs ∧ j < σ.length) ↔ (j ∈ vs ∧ j < σ.length) := by simp [Ne.symm hij]
      by_cases h : j ∈ vs ∧ j < σ.length
      · rw [if_pos h, if_pos (e.mpr h)]
      · rw [if_neg h, if_neg fun z => h (e.mp z)]
theorem wipe_same {σ σ' : Sg} {vs : List Nat} (hl : σ'.length = σ.length) (h : ∀ j, j ∉ vs → sg σ' j = sg σ j) : wipe σ' vs = wipe σ vs := by
  apply List.ext_getElem?
  intro j
  rw [wipe_get, wipe_get, hl]
  by_cases hj : j ∈ vs ∧ j < σ.length
  · rw [if_pos hj, if_pos hj]
  · rw [if_neg hj, if_neg hj]
    by_cases hv : j ∈ vs
    · have hlt : ¬ j < σ.length := fun z => hj ⟨hv, z⟩
      rw [List.getElem?_eq_none (by omega), List.getElem?_eq_none (by omega)]
    · exact get_of_sg hl (h j hv)
noncomputable def hid (H : Hp) (D : Addr) : Hp := fun b => if b = D then none else H b
theorem hid_ne {H : Hp} {D b : Addr} (h : b ≠ D) : hid H D b = H b := by unfold hid; rw [if_neg h]
theorem hid_at {H : Hp} {D : Addr} : hid H D D = none := by unfold hid; rw [if_pos rfl]
theorem hid_some {H : Hp} {D b : Addr} {o : HO} (h : hid H D b = some o) : b ≠ D ∧ H b = some o := by
  by_cases e : b = D
  · subst e; rw [hid_at] at h; cases h
  · exact ⟨e, by rw [hid_ne e] at h; exact h⟩
theorem hid_upd {H : Hp} {D : Addr} {o : HO} : hid (upd H D o) D = hid H D := by
  funext b
  by_cases e : b = D
  · subst e; rw [hid_at, hid_at]
  · rw [hid_ne e, hid_ne e, upd_ne e]
theorem hid_free {H : Hp} {D : Addr} (h : H D = none) : hid H D = H := by
  funext b
  by_cases e : b = D
  · subst e; rw [hid_at, h]
  · rw [hid_ne e]
section
variable {K : Fg} {F H F' H' : Hp} {σ σ' : Sg} {ρ ρ' : Rho} {fp fp' : FP} {D : Addr} {vs : List Nat}
theorem env_hid (E : EnvOk K F H σ ρ fp) (hF : F D = none) (hO : ¬ Owns fp D) (hD : ∀ ps, H D ≠ some (.tbl ps)) : EnvOk K F (hid H D) σ ρ fp := by
  refine ⟨fun b o e => ?_, E.len, fun i s h => ?_, E.nil, E.nd, E.ap, E.tb.mono (Same.refl _) fun P ps h1 h2 => ⟨h2, hid_ne fun z => by subst z; exact hD ps h1⟩, E.al' (fun _ _ _ h => ⟨h, rfl⟩) fun i _ _ h => ⟨h, rfl, fun b hb => hid_ne fun z => by subst z; exact hO ⟨i, hb⟩⟩⟩
  · rw [hid_ne fun z => by subst z; rw [hF] at e; cases e]
    exact E.sub b o e
  · have q := E.sl i s h
    cases s with
    | no => trivial
    | al _ _ => trivial
    | val d => exact q
    | own m t =>
      obtain ⟨u, e1, e2⟩ := q
      exact ⟨u, e1, e2.move (Same.refl _) fun b hb => ⟨hid_ne fun z => by subst z; exact hO ⟨i, hb⟩, (e2.mem b hb).2⟩⟩
theorem env_show (E : EnvOk K F (hid H D) σ ρ fp) : EnvOk K F H σ ρ fp := by
  refine ⟨fun b o e => (hid_some (E.sub b o e)).2, E.len, fun i s h => ?_, E.nil, E.nd, E.ap, E.tb.mono (Same.refl _) fun P ps h1 h2 => ⟨h2, (hid_some h1).2.trans h1.symm⟩, E.al' (fun _ _ _ h => ⟨h, rfl⟩) fun i _ _ h => ⟨h, rfl, fun b hb => by
    cases z : hid H D b with
    | none => exact absurd z (E.there ⟨i, hb⟩).1
    | some o => exact (hid_some z).2⟩⟩
  have q := E.sl i s h
  cases s with
  | no => trivial
  | al _ _ => trivial
  | val d => exact q
  | own m t =>
    obtain ⟨u, e1, e2⟩ := q
    refine ⟨u, e1, e2.move (Same.refl _) fun b hb => ⟨?_, (e2.mem b hb).2⟩⟩
    cases z : hid H D b with
    | none => exact absurd z (e2.mem b hb).1
    | some o => exact (hid_some z).2
theorem step_keeps (s : Step K F H σ ρ fp F' H' σ' ρ' fp') {o : HO} (hD : H D = some o) (hF : F D = none) (hO : ¬ Owns fp D) (hn : ∀ ps, o ≠ .tbl ps := by exact fun _ z => nomatch z) (hk : ∀ ks : List Key, o ≠ .tup (ks.map kV) := by exact fun _ z => nomatch z) : H' D = some o ∧ F' D = none ∧ ¬ Owns fp' D := by
  refine ⟨s.frame D o hD hO hn, ?_, fun z => ?_⟩
  · cases q : F' D with
    | none => rfl
    | some u =>
      rcases s.nf D hF (by rw [q]; exact fun z => nomatch z) with z | z | ⟨ks, z⟩ | ⟨ps, z⟩
      · rw [hD] at z; cases z
      · exact absurd z hO
      · rw [hD] at z; exact absurd (Option.some.inj z) (hk ks)
      · rw [hD] at z; exact absurd (Option.some.inj z) (hn ps)
  · rcases s.own D z with z | z
    · exact hO z
    · rw [hD] at z; cases z
theorem step_hid (s : Step K F H σ ρ fp F' H' σ' ρ' fp') (hF : F' D = none) (hO : ¬ Owns fp' D) (hn : ∀ ps, H' D ≠ some (.tbl ps)) : Step K F (hid H D) σ ρ fp F' (hid H' D) σ' ρ' fp' := by
  refine ⟨env_hid s.env hF hO hn, s.fr, fun b h h' => ?_, fun b h => ?_, fun b o h n nt => ?_, fun b h => (s.own b h).imp_right fun z => ?_, s.pin, fun i t h => ?_⟩
  · by_cases e : b = D
    · subst e; exact .inl hid_at
    · unfold KT
      rw [hid_ne e]; exact s.nf b h h'
  · by_cases e : b = D
    · subst e; exact hid_at
    · rw [hid_ne e] at h ⊢; exact s.dom b h
  · obtain ⟨e, h⟩ := hid_some h
    rw [hid_ne e]
    exact s.frame b o h n nt
  · by_cases e : b = D
    · subst e; exact hid_at
    · rw [hid_ne e]; exact z
  · obtain ⟨a, b, c, d⟩ := s.lock i t h
    refine ⟨a, b, c, fun x hx => ?_⟩
    by_cases e : x = D
    · subst e; rw [hid_at, hid_at]
    · rw [hid_ne e, hid_ne e]; exact d x hx
theorem wipe_step {σin : Sg} (E : EnvOk K F H σ ρ fp) (hn : noOwn ρ vs = true) (hl : σin.length = σ.length) (hs : ∀ i, i ∉ vs → sg σin i = sg σ i) : Step K F H σ ρ fp F H σin (wipeR ρ vs) fp := by
  have own : ∀ {i m t}, (wipeR ρ vs)[i]? = some (Sl.own m t) → i ∉ vs ∧ ρ[i]? = some (Sl.own m t) := fun {i m t} h => by
    by_cases hi : i ∈ vs
    · exact nomatch wipeR_in hi h
    · exact ⟨hi, by rw [wipeR_out hi] at h; exact h⟩
  have out : ∀ {i m t}, ρ[i]? = some (Sl.own m t) → i ∉ vs := fun {i m t} h hi => noOwn_get hn hi m t h
  refine ⟨⟨E.sub, by rw [wipeR_len, hl]; exact E.len, fun i s h => ?_, fun i h => ?_, E.nd, E.ap, E.tb, E.al' (fun j i p h => ?_) fun i p t h => ?_⟩, Same.refl _, fun _ h h' => absurd h h', fun _ h => h, fun _ _ h _ _ => h, fun _ h => .inl h, fun i m t h hm => ?_, fun i t h => ?_⟩
  rotate_left 2
  · by_cases hi : j ∈ vs
    · exact nomatch wipeR_in hi h
    · rw [wipeR_out hi] at h; exact ⟨h, hs j hi⟩
  · exact ⟨(own h).2, hs i (own h).1, fun _ _ => rfl⟩
  rotate_right 2
  · by_cases hi : i ∈ vs
    · have := wipeR_in hi h
      subst this
      trivial
    · rw [wipeR_out hi] at h
      rw [hs i hi]
      exact E.sl i s h
  · refine E.nil i fun m t z => h m t ?_
    rw [wipeR_out (out z)]
    exact z
  · exact ⟨hs i (out h), m, t, by rw [wipeR_out (out h)]; exact h, hm⟩
  · exact ⟨hs i (out h), by rw [wipeR_out (out h)]; exact h, rfl, fun _ _ => rfl⟩
end
structure Blk (K : Fg) (T vs : List Nat) (F H : Hp) (σ : Sg) (ρ : Rho) (fp : FP) (F' H' : Hp) (σ' : Sg) (ρ' : Rho) (fp' : FP) : Prop where
  st : Step K F H σ ρ fp F' H' σ' ρ' fp'
  len : σ'.length = σ.length
  rl : ρ'.length = ρ.length
  sv : ∀ i, i ∉ vs → sg σ' i = sg σ i
  ko : ∀ (i : Nat) m t, i ∉ vs → ρ[i]? = some (Sl.own m t) → ∃ t', ρ'[i]? = some (Sl.own m t')
  un : ∀ (i : Nat), i ∉ vs → i ∉ T → ρ'[i]? = ρ[i]? ∧ fp' i = fp i ∧ ∀ b ∈ fp i, H' b = H b
section
variable {K : Fg} {T vs : List Nat} {F H F1 H1 F2 H2 : Hp} {σ σ1 σ2 : Sg} {ρ ρ1 ρ2 : Rho} {fp fp1 fp2 : FP}
theorem Blk.refl (E : EnvOk K F H σ ρ fp) : Blk K T vs F H σ ρ fp F H σ ρ fp := ⟨.refl E, rfl, rfl, fun _ _ => rfl, fun _ _ t _ h => ⟨t, h⟩, fun _ _ _ => ⟨rfl, rfl, fun _ _ => rfl⟩⟩
theorem Blk.trans (a : Blk K T vs F H σ ρ fp F1 H1 σ1 ρ1 fp1) (b : Blk K T vs F1 H1 σ1 ρ1 fp1 F2 H2 σ2 ρ2 fp2) : Blk K T vs F H σ ρ fp F2 H2 σ2 ρ2 fp2 :=
  ⟨a.st.trans b.st, b.len.trans a.len, b.rl.trans a.rl, fun i hi => (b.sv i hi).trans (a.sv i hi), fun i m t hi h => let ⟨t1, h1⟩ := a.ko i m t hi h; b.ko i m t1 hi h1, fun i hi hT => by
    obtain ⟨a1, a2, a3⟩ := a.un i hi hT
    obtain ⟨b1, b2, b3⟩ := b.un i hi hT
    exact ⟨b1.trans a1, b2.trans a2, fun c hc => (b3 c (by rw [a2]; exact hc)).trans (a3 c hc)⟩⟩
theorem Blk.of_e {T1 : List Nat} (E : EnvOk K F H σ ρ fp) (a : EStep K T1 F H σ ρ fp F1 H1 ρ1 fp1) (hT : ∀ i ∈ T1, i ∈ T) : Blk K T vs F H σ ρ fp F1 H1 σ ρ1 fp1 :=
  ⟨a.st, rfl, by have h1 := a.env.len; have h2 := E.len; omega, fun _ _ => rfl, fun i m t _ h => a.ko i m t h, fun i _ hi => a.un i fun z => hi (hT i z)⟩
theorem Blk.of_g {ws : List Nat} (E : EnvOk K F H σ ρ fp) (s : Step K F H σ ρ fp F H σ1 ρ1 fp1) (o : Off ws σ ρ fp σ1 ρ1 fp1) (hw : ∀ i ∈ ws, i ∈ vs) : Blk K T vs F H σ ρ fp F H σ1 ρ1 fp1 :=
  ⟨s, o.1, by have h1 := s.env.len; have h2 := E.len; have h3 := o.1; omega, fun i hi => (o.2 i fun z => hi (hw i z)).1, fun i m t hi h => ⟨t, by rw [(o.2 i fun z => hi (hw i z)).2.1]; exact h⟩, fun i hi _ => ⟨(o.2 i fun z => hi (hw i z)).2.1, (o.2 i fun z => hi (hw i z)).2.2, fun _ _ => rfl⟩⟩
theorem Blk.of_w {σin : Sg} (E : EnvOk K F H σ ρ fp) (hn : noOwn ρ vs = true) (hl : σin.length = σ.length) (hs : ∀ i, i ∉ vs → sg σin i = sg σ i) : Blk K T vs F H σ ρ fp F H σin (wipeR ρ vs) fp :=
  ⟨wipe_step E hn hl hs, hl, wipeR_len, hs, fun i m t hi h => ⟨t, by rw [wipeR_out hi]; exact h⟩, fun i hi _ => ⟨wipeR_out hi, rfl, fun _ _ => rfl⟩⟩
theorem Blk.hid {D : Addr} {o : HO} (s : Blk K T vs F H σ ρ fp F1 H1 σ1 ρ1 fp1) (hF : F1 D = none) (hO : ¬ Owns fp1 D) (hD : H1 D = some o) (hn : ∀ ps, o ≠ .tbl ps := by exact fun _ z => nomatch z) : Blk K T vs F (hid H D) σ ρ fp F1 (VL.hid H1 D) σ1 ρ1 fp1 :=
  ⟨step_hid s.st hF hO (fun ps z => hn ps (Option.some.inj (hD.symm.trans z))), s.len, s.rl, s.sv, s.ko, fun i hi hT => by
    obtain ⟨a, b, c⟩ := s.un i hi hT
    refine ⟨a, b, fun x hx => ?_⟩
    by_cases e : x = D
    · subst e; rw [hid_at, hid_at]
    · rw [hid_ne e, hid_ne e]; exact c x hx⟩
end
noncomputable def VTs (X : Cx) (T : List Nat) (W : WV) (ifs : List Expr) (f : M Bool) : Prop := PTs X ifs (tVT X.K T W f)
section
variable {X : Cx} {T T1 T2 T3 : List Nat} {W : WV} {pos : Pos}
theorem pts_imp {e : List Expr} {t t' : TT} (h : PTs X e t) (i : ∀ σ H Q, t' σ H Q → t σ H Q) : PTs X e t' := ⟨fun pins s σ H Q I q => h.run pins s σ H Q I (i σ H Q q)⟩
theorem vts_nil : VTs X [] W [] tYesM := pts_imp pts_nil fun σ H Q ⟨F, ρ, fp, o, E, e, P⟩ => by
  cases ok_inj e
  exact P _ H F fp (.refl E) rfl
theorem vts_one {c : Expr} {fc : M Bool} (h : VT X T W c fc) : VTs X T W [c] fc := pts_one h
theorem tv_comp {K : Fg} {σ : Sg} {H : Hp} {Q : VK} {wi : TI} {fi : M (List PyData)} {gt : TG} {ws vs : List Nat} {G : MG} {tt : M Bool} {te : M Rv}
    (hi : ∀ σ H R F ρ fp o, EnvOk K F H σ ρ fp → fi ρ = some o →
      (match o with
       | Er.ok xs ρ' => ∀ J G Y H1 F1 fp1, EStep K T1 F H σ ρ fp F1 H1 ρ' fp1 → Walk J xs.length G Y → (∀ F2 H2, Same F1 F2 → Same F2 H2 → G H2) →
          (∀ i F2 H2 x H3, i < xs.length → Same F1 F2 → Same F2 H2 → Y i H2 x H3 → ∃ F3 d, xs[i]? = some d ∧ Grow F2 H2 F3 H3 ∧ Dq K F3 x d) → R J H1
       | Er.ex c ρ' => ∀ H1 F1 fp1, EStep K T1 F H σ ρ fp F1 H1 ρ' fp1 → W c σ H1) → wi σ H R)
    (hg : GOk K gt ws G) (hw : ∀ i ∈ ws, i ∈ vs) (h : tVN K (T1 ++ (T2 ++ T3)) W (nComp fi vs G tt te) σ H Q) : tLc wi gt (tVT K T2 W0 tt) (tV K T3 W0 te) vs σ H Q := by
  obtain ⟨F, ρ, fp, o, E, e, P⟩ := h
  unfold nComp bnd at e
  cases hf : fi ρ with
  | none => rw [hf] at e; cases e
  | some r =>
    rw [hf] at e
    cases r with
    | ex c ρ1 => cases e; exact hi σ H _ F ρ fp _ E hf fun H1 F1 fp1 s1 => P H1 F1 fp1 (s1.sub fun i hi => List.mem_append_left _ hi)
    | ok xs ρ1 =>
      refine hi σ H _ F ρ fp _ E hf fun J Gw Y H1 F1 fp1 s1 w hG hY D nD => ?_
      simp only at e
      unfold comp1 at e
      split at e
      · rename_i hn1
        split at e
        · rename_i ds ρe hgo
          split at e
          · rename_i hne
            cases ok_inj e
            have hFD : F1 D = none := s1.env.sub.free nD
            have hOD : ¬ Owns fp1 D := fun z => (s1.env.there z).1 nD
            -- the block's start, the list being hidden
            have b0 : Blk K (T2 ++ T3) vs F1 H1 σ ρ1 fp1 F1 (hid (upd H1 D (.lst [])) D) (wipe σ vs) (wipeR ρ1 vs) fp1 := by
              rw [hid_upd, hid_free nD]
              exact .of_w s1.env hn1 (wipe_length σ vs) fun i hi => wipe_out hi
            refine lc_it w (fun i H' => ∃ F' ρ' fp' acc ds', Blk K (T2 ++ T3) vs F1 H1 σ ρ1 fp1 F' (hid H' D) (wipe σ vs) ρ' fp' ∧ H' D = some (.lst acc) ∧ F' D = none ∧ ¬ Owns fp' D ∧ DqAll K F' acc ds' ∧ compGo vs G tt te (xs.drop i) ds' ρ' = some (ds, ρe))
              ⟨F1, wipeR ρ1 vs, fp1, [], [], b0, upd_same, hFD, hOD, .nil, by rw [List.drop_zero]; exact hgo⟩
              (fun i H' _ ⟨F', ρ', fp', acc, ds', b, _⟩ => hG F' H' b.st.fr (env_show b.st.env).sub) (fun i x H' H3 hilt ⟨F', ρ', fp', acc, ds', b, hD, hFD', hOD', hacc, hgo'⟩ y => ?_) fun H' ⟨F', ρ', fp', acc, ds', b, hD, hFD', hOD', hacc, hgo'⟩ => ?_
            · have E' := env_show b.st.env
              obtain ⟨F3, d, hd, g3, dx⟩ := hY i F' H' x H3 hilt b.st.fr E'.sub y
              have hdrop : xs.drop i = d :: xs.drop (i + 1) := by
                obtain ⟨hi', hd'⟩ := List.getElem?_eq_some_iff.mp hd
                rw [List.drop_eq_getElem_cons hi', hd']
              rw [hdrop] at hgo'
              unfold compGo at hgo'
              have s3 : EStep K [] F' H' (wipe σ vs) ρ' fp' F3 H3 ρ' fp' := g3.step E'
              obtain ⟨hD3, hF3, hO3⟩ := step_keeps s3.st hD hFD' hOD'
              have b3 : Blk K (T2 ++ T3) vs F1 H1 σ ρ1 fp1 F3 (hid H3 D) (wipe σ vs) ρ' fp' := b.trans ((Blk.of_e E' s3 (fun i hi => nomatch hi)).hid hF3 hO3 hD3)
              split at hgo'
              · cases hgo'
              · rename_i ρ4 h4
                refine hg x (wipe σ vs) H3 _ F3 ρ' fp' d ρ4 s3.env dx h4 fun σ4 fp4 s4 o4 => ?_
                have hF4 := hF3
                obtain ⟨hD4, _, hO4⟩ := step_keeps s4 hD3 hF3 hO3
                have b4 := b3.trans ((Blk.of_g (T := T2 ++ T3) s3.env s4 o4 hw).hid hF4 hO4 hD4)
                have hσ4 : wipe σ4 vs = wipe σ vs := wipe_same b4.len b4.sv
                refine ⟨hσ4, ?_⟩
                cases htt : tt ρ4 with
                | none => rw [htt] at hgo'; cases hgo'
                | some rt =>
                  rw [htt] at hgo'
                  cases rt with
                  | ex c ρ5 => cases hgo'
                  | ok k ρ5 =>
                    refine ⟨F3, ρ4, fp4, _, s4.env, htt, fun k' H5 F5 fp5 s5 r5 => ?_⟩
                    have r5 : k' = k := r5
                    subst r5
                    obtain ⟨hD5, hF5, hO5⟩ := step_keeps s5.st hD4 hF4 hO4
                    have b5 := b4.trans ((Blk.of_e (vs := vs) (T := T2 ++ T3) s4.env s5 (fun i hi => List.mem_append_left _ hi)).hid hF5 hO5 hD5)
                    cases k' with
                    | false =>
                      dsimp only
                      rw [if_neg Bool.false_ne_true]
                      simp only at hgo'
                      split at hgo'
                      · rename_i hn5
                        have bw := (Blk.of_w (T := T2 ++ T3) (σin := wipe σ vs) s5.env hn5 (by rw [wipe_length]; exact b5.len.symm) fun i hi => by rw [wipe_out hi]; exact (b5.sv i hi).symm).hid hF5 hO5 hD5
                        exact ⟨F5, wipeR ρ5 vs, fp5, acc, ds', b5.trans bw, hD5, hF5, hO5, dqAll_mono (g3.f.trans s5.st.fr) _ _ hacc, hgo'⟩
                      · cases hgo'
                    | true =>
                      dsimp only
                      rw [if_pos rfl]
                      simp only at hgo'
                      cases hte : te ρ5 with
                      | none => rw [hte] at hgo'; cases hgo'
                      | some re =>
                        rw [hte] at hgo'
                        cases re with
                        | ex c ρ6 => cases hgo'
                        | ok rv ρ6 =>
                          cases rv with
                          | o j => cases hgo'
                          | d d6 =>
                            refine ⟨F5, ρ5, fp5, _, s5.env, hte, fun y6 H6 F6 fp6 s6 r6 => ?_⟩
                            obtain ⟨hD6, hF6, hO6⟩ := step_keeps s6.st hD5 hF5 hO5
                            have b6 := b5.trans ((Blk.of_e (vs := vs) (T := T2 ++ T3) s5.env s6 (fun i hi => List.mem_append_right _ hi)).hid hF6 hO6 hD6)
                            simp only at hgo'
                            split at hgo'
                            · rename_i hn6
                              rw [Bool.and_eq_true] at hn6
                              have hacc6 := dqAll_mono (g3.f.trans (s5.st.fr.trans s6.st.fr)) _ _ hacc
                              refine ⟨acc, hD6, ?_, F6, wipeR ρ6 vs, fp6, acc ++ [y6], ds' ++ [d6], ?_, upd_same, hF6, hO6, dqAll_app hacc6 (.cons r6 .nil), hgo'⟩
                              · have := small_iff.mp hn6.1
                                rw [dqAll_len hacc6]
                                omega
                              · rw [hid_upd]
                                have bw := (Blk.of_w (T := T2 ++ T3) (σin := wipe σ vs) s6.env hn6.2 (by rw [wipe_length]; exact b6.len.symm) fun i hi => by rw [wipe_out hi]; exact (b6.sv i hi).symm).hid hF6 hO6 hD6
                                exact b6.trans bw
                            · cases hgo'
            · rw [List.drop_length] at hgo'
              cases (Option.some.inj hgo')
              -- the end: the slots as they were
              have E' := env_show b.st.env
              have hl1 : ρ1.length = ρe.length := b.rl.symm
              have slot : ∀ (i : Nat), i ∈ vs → (restR ρ1 ρe vs)[i]? = ρ1[i]? := fun i hi => restR_in hl1 hi
              have Er : EnvOk K F' H' σ (restR ρ1 ρe vs) fp' := by
                refine ⟨E'.sub, by rw [restR_len, ← hl1]; exact s1.env.len, fun i s hs => ?_, fun i hi => ?_, E'.nd, E'.ap, E'.tb, E'.al' (fun j i p h => ?_) fun i p t h => ?_⟩
                rotate_left 2
                · by_cases hv : j ∈ vs
                  · rw [slot j hv] at h; exact absurd h (noOwn_al hn1 hv i p)
                  · rw [restR_out hv] at h; exact ⟨h, (wipe_out hv).symm⟩
                · by_cases hv : i ∈ vs
                  · rw [slot i hv] at h; exact absurd h (noOwn_get hn1 hv _ t)
                  · rw [restR_out hv] at h; exact ⟨h, (wipe_out hv).symm, fun _ _ => rfl⟩
                rotate_right 2
                · by_cases hv : i ∈ vs
                  · rw [slot i hv] at hs
                    have q := s1.env.sl i s hs
                    cases s with
                    | no => trivial
                    | al _ _ => trivial
                    | val d => obtain ⟨u, e1, e2⟩ := q; exact ⟨u, e1, dq_mono b.st.fr _ _ e2⟩
                    | own m t => exact absurd hs (noOwn_get hn1 hv m t)
                  · rw [restR_out hv] at hs
                    have q := E'.sl i s hs
                    rw [wipe_out hv] at q
                    exact q
                · by_cases hv : i ∈ vs
                  · exact E'.nil i fun m t z => noOwn_get hne hv m t z
                  · refine E'.nil i fun m t z => hi m t ?_
                    rw [restR_out hv]; exact z
              have fin : EStep K (T1 ++ (T2 ++ T3)) F1 H1 σ ρ1 fp1 F' H' (restR ρ1 ρe vs) fp' := by
                refine ⟨⟨Er, b.st.fr, b.st.nf, fun c hc => ?_, fun c o hc hn nt => (hid_some (b.st.frame c o hc hn nt)).2, b.st.own, fun i m t h hm => ?_, fun i t h => ?_⟩, fun i m t h => ?_, fun i hi => ?_⟩
                · refine b.st.dom c ?_
                  by_cases z : c = D
                  · subst z; exact hid_at
                  · rw [hid_ne z]; exact hc
                · have hv : i ∉ vs := fun z => noOwn_get hn1 z _ _ h
                  obtain ⟨_, m', t', h', k'⟩ := b.st.pin i m t h hm
                  exact ⟨rfl, m', t', by rw [restR_out hv]; exact h', k'⟩
                · have hv : i ∉ vs := fun z => noOwn_get hn1 z _ _ h
                  obtain ⟨_, h', hfp, hb⟩ := b.st.lock i t h
                  refine ⟨rfl, by rw [restR_out hv]; exact h', hfp, fun c hc => ?_⟩
                  have z := hb c hc
                  have hne : c ≠ D := fun z => by subst z; exact hOD ⟨i, hc⟩
                  rw [hid_ne hne] at z
                  exact z
                · have hv : i ∉ vs := fun z => noOwn_get hn1 z _ _ h
                  obtain ⟨t', h'⟩ := b.ko i m t hv h
                  exact ⟨t', by rw [restR_out hv]; exact h'⟩
                · by_cases hv : i ∈ vs
                  · have hnil : fp1 i = [] := s1.env.nil i fun m t z => noOwn_get hn1 hv m t z
                    have hnil' : fp' i = [] := E'.nil i fun m t z => noOwn_get hne hv m t z
                    refine ⟨slot i hv, by rw [hnil, hnil'], fun c hc => ?_⟩
                    rw [hnil] at hc
                    cases hc
                  · obtain ⟨a1, a2, a3⟩ := b.un i hv fun z => hi (List.mem_append_right _ z)
                    refine ⟨by rw [restR_out hv]; exact a1, a2, fun c hc => ?_⟩
                    have z := a3 c hc
                    have hne : c ≠ D := fun z => by subst z; exact hOD ⟨i, hc⟩
                    rw [hid_ne hne] at z
                    exact z
              refine P (.ref D) H' F' fp' ((s1.sub fun i hi => List.mem_append_left _ hi).trans fin) ⟨[D], ?_⟩
              refine ⟨.lst hD hFD' (trs_dat hacc), by simp, fun c hc => ?_, fun c hc => ?_⟩
              · rw [List.mem_singleton.mp hc]
                exact .inl (s1.st.dom D nD)
              · rw [List.mem_singleton.mp hc]
                exact hOD'
          · cases e
        · cases e
      · cases e
theorem vn_comp {elt tg iter : Expr} {ifs : List Expr} {scope : Scope} {own : List (Str × Nat)} {fi : M (List PyData)} {gt : TG} {ws : List Nat} {G : MG} {tt : M Bool} {te : M Rv} (hc : X.calm = true) (hN : X.N.Nodup) (hi : VI X T1 W tg iter fi) (ok : BlkOk X.N X.env.scope scope own)
    (hg : ∀ (s : Shared) (H : Hp) (C : Addr) (cl : List (Str × Addr)) (fp : List Addr), VG (X.blk s H scope (compEnvC scope cl C X.env) fp) tg gt ws G) (hw : ∀ i ∈ ws, i ∈ own.map (·.2))
    (ht : ∀ (s : Shared) (H : Hp) (C : Addr) (cl : List (Str × Addr)) (fp : List Addr), VTs (X.blk s H scope (compEnvC scope cl C X.env) fp) T2 W0 ifs tt)
    (he : ∀ (s : Shared) (H : Hp) (C : Addr) (cl : List (Str × Addr)) (fp : List Addr), VE (X.blk s H scope (compEnvC scope cl C X.env) fp) T3 W0 elt te) (hs : ∀ x, foldedSetIterable iter X.env x = pure x := by intro _; rfl) :
    VN X (T1 ++ (T2 ++ T3)) W (.ListComp elt [⟨tg, iter, ifs, 0⟩] scope pos) (nComp fi (own.map (·.2)) G tt te) := by
  obtain ⟨wi, p1, q1⟩ := hi
  exact pe_imp (pe_lc (tt := tVT X.K T2 W0 tt) (te := tV X.K T3 W0 te) hc hN p1 ok (fun s H C cl fp => (hg s H C cl fp).1) ht he hs) fun σ H Q h => tv_comp q1 (hg ⟨X.s_0.heap, X.s_0.gens, X.s_0.drawn, X.s_0.toks, X.s_0.os⟩ X.H_0 0 [] []).2 hw h
theorem vs_setComp {i : Nat} {y : Str} {py spos : Pos} {elt tg iter : Expr} {ifs : List Expr} {scope : Scope} {own : List (Str × Nat)} {fi : M (List PyData)} {gt : TG} {ws : List Nat} {G : MG} {tt : M Bool} {te : M Rv} (hc : X.calm = true) (hN : X.N.Nodup) (hi : VI X T1 W tg iter fi) (ok : BlkOk X.N X.env.scope scope own)
    (hg : ∀ (s : Shared) (H : Hp) (C : Addr) (cl : List (Str × Addr)) (fp : List Addr), VG (X.blk s H scope (compEnvC scope cl C X.env) fp) tg gt ws G) (hw : ∀ i ∈ ws, i ∈ own.map (·.2))
    (ht : ∀ (s : Shared) (H : Hp) (C : Addr) (cl : List (Str × Addr)) (fp : List Addr), VTs (X.blk s H scope (compEnvC scope cl C X.env) fp) T2 W0 ifs tt)
    (he : ∀ (s : Shared) (H : Hp) (C : Addr) (cl : List (Str × Addr)) (fp : List Addr), VE (X.blk s H scope (compEnvC scope cl C X.env) fp) T3 W0 elt te) (hy : X.N[i]? = some y := by rfl) (hyl : X.env.scope.names.lookup y = some .local := by rfl)
    (hsw : swapsWith (.ListComp elt [⟨tg, iter, ifs, 0⟩] scope pos) (some (.Name y py)) spos.line X.env = pure true := by exact sw_true rfl rfl rfl (by decide +kernel)) (hs : ∀ x, foldedSetIterable iter X.env x = pure x := by intro _; rfl) :
    VS X W (.Assign [.Name y py] (.ListComp elt [⟨tg, iter, ifs, 0⟩] scope pos) spos) (sSetN i (nComp fi (own.map (·.2)) G tt te)) := by
  obtain ⟨wi, p1, q1⟩ := hi
  refine ps_imp (ps_setLc (tt := tVT X.K T2 W0 tt) (te := tV X.K T3 W0 te) hc hN hy hyl hsw p1 ok (fun s H C cl fp => (hg s H C cl fp).1) ht he hs) fun D σ H ⟨F, ρ, fp, o, E, e, P⟩ => ?_
  refine tv_comp (T1 := T1) q1 (hg ⟨X.s_0.heap, X.s_0.gens, X.s_0.drawn, X.s_0.toks, X.s_0.os⟩ X.H_0 0 [] []).2 hw (tv_st E e P fun t ρ1 v H1 F1 fp1 s1 ⟨A, n⟩ e1 _ => ?_)
  obtain ⟨ρ2, e2, rfl⟩ := map_some e1
  exact P _ H1 F1 _ (set_step s1.st e2 ⟨v, rfl, n.ok⟩ n.nd n.out (fun z => nomatch z) n.new)
theorem vs_setCompV {i : Nat} {y : Str} {py spos : Pos} {elt tg iter : Expr} {ifs : List Expr} {scope : Scope} {own : List (Str × Nat)} {fi : M (List PyData)} {gt : TG} {ws : List Nat} {G : MG} {tt : M Bool} {te : M Rv} (hc : X.calm = true) (hN : X.N.Nodup) (hi : VI X T1 W tg iter fi) (ok : BlkOk X.N X.env.scope scope own)
    (hg : ∀ (s : Shared) (H : Hp) (C : Addr) (cl : List (Str × Addr)) (fp : List Addr), VG (X.blk s H scope (compEnvC scope cl C X.env) fp) tg gt ws G) (hw : ∀ i ∈ ws, i ∈ own.map (·.2))
    (ht : ∀ (s : Shared) (H : Hp) (C : Addr) (cl : List (Str × Addr)) (fp : List Addr), VTs (X.blk s H scope (compEnvC scope cl C X.env) fp) T2 W0 ifs tt)
    (he : ∀ (s : Shared) (H : Hp) (C : Addr) (cl : List (Str × Addr)) (fp : List Addr), VE (X.blk s H scope (compEnvC scope cl C X.env) fp) T3 W0 elt te) (hy : X.N[i]? = some y := by rfl) (hyl : X.env.scope.names.lookup y = some .local := by rfl)
    (hsw : swapsWith (.ListComp elt [⟨tg, iter, ifs, 0⟩] scope pos) (some (.Name y py)) spos.line X.env = pure true := by exact sw_true rfl rfl rfl (by decide +kernel)) (hs : ∀ x, foldedSetIterable iter X.env x = pure x := by intro _; rfl) :
    VS X W (.Assign [.Name y py] (.ListComp elt [⟨tg, iter, ifs, 0⟩] scope pos) spos) (sSet i (cFrz (nComp fi (own.map (·.2)) G tt te))) := by
  obtain ⟨wi, p1, q1⟩ := hi
  refine ps_imp (ps_setLc (tt := tVT X.K T2 W0 tt) (te := tV X.K T3 W0 te) hc hN hy hyl hsw p1 ok (fun s H C cl fp => (hg s H C cl fp).1) ht he hs) fun D σ H ⟨F, ρ, fp, o, E, e, P⟩ => ?_
  refine tv_comp (T1 := T1) q1 (hg ⟨X.s_0.heap, X.s_0.gens, X.s_0.drawn, X.s_0.toks, X.s_0.os⟩ X.H_0 0 [] []).2 hw (tv_frz (tv_st E e P fun r ρ1 v H1 F1 fp1 s1 r1 e1 _ => ?_))
  cases r with
  | o _ => cases e1
  | d d =>
    obtain ⟨ρ2, e2, rfl⟩ := map_some e1
    exact P _ H1 F1 _ (put_val s1.st e2 r1)
end
end VL

end

section
set_option Elab.async false
set_option linter.all false
set_option maxRecDepth 100000
namespace VL
open PySem PySem.Spec PyProof.Rows L2

theorem kids_set {t k k' : Tr} {j : Nat} (h : (kids t)[j]? = some k) : (kids (setKid t j k'))[j]? = some k' := by
  have hj := (List.getElem?_eq_some_iff.mp h).1
  cases t with
  | dat _ => simp [kids] at hj
  | fk _ => simp [kids] at hj
  | ft _ => simp [kids] at hj
  | raw _ => simp [kids] at hj
  | sd _ => simp [kids] at hj
  | hole => simp [kids] at hj
  | tup ts => exact List.getElem?_set_self hj
  | lst ts => exact List.getElem?_set_self hj
  | dk ts => show ((setSnd ts j k').map (·.2))[j]? = _; rw [setSnd_snd]; exact List.getElem?_set_self hj
  | dt ts => show ((setSnd ts j k').map (·.2))[j]? = _; rw [setSnd_snd]; exact List.getElem?_set_self hj
  | ins c ts => show ((setSnd ts j k').map (·.2))[j]? = _; rw [setSnd_snd]; exact List.getElem?_set_self hj
theorem put_at : ∀ {p : List Nat} {t y t0 : Tr}, t.at p = some t0 → (t.put p y).at p = some y
  | [], t, y, t0, h => by simp [Tr.put, Tr.at]
  | j :: p, t, y, t0, h => by
    simp only [Tr.at] at h
    split at h
    · rename_i k hk
      simp only [Tr.put, hk, Tr.at, kids_set hk]
      exact put_at h
    · cases h
theorem put_app : ∀ {p q : List Nat} {t y tp : Tr}, t.at p = some tp → t.put (p ++ q) y = t.put p (tp.put q y)
  | [], q, t, y, tp, h => by
    simp only [Tr.at] at h
    cases h
    simp [Tr.put]
  | j :: p, q, t, y, tp, h => by
    simp only [Tr.at] at h
    split at h
    · rename_i k hk
      simp only [List.cons_append, Tr.put, hk]
      rw [put_app h]
    · cases h
theorem at_appB : ∀ {p q : List Nat} {t tp : Tr}, t.at p = some tp → t.at (p ++ q) = tp.at q
  | [], q, t, tp, h => by
    simp only [Tr.at] at h
    cases h
    rfl
  | j :: p, q, t, tp, h => by
    simp only [Tr.at] at h
    split at h
    · rename_i k hk
      simp only [List.cons_append, Tr.at, hk]
      exact at_appB h
    · cases h
theorem path_app {H : Hp} : ∀ {p q : List Nat} {u v : V}, pathV H u p = some v → pathV H u (p ++ q) = pathV H v q
  | [], q, u, v, h => by
    simp only [pathV] at h
    cases h
    rfl
  | j :: p, q, u, v, h => by
    simp only [pathV] at h
    split at h
    · rename_i k hk
      simp only [List.cons_append, pathV, hk]
      exact path_app h
    · cases h
noncomputable def Md.wr (m : Md) (r : List Nat) : Prop := m ≠ .lock ∧ ∀ p, m = .bor p → ∃ r', r = p ++ r'
theorem mut_step {K : Fg} {T : List Nat} {F0 H0 F H : Hp} {σ : Sg} {ρ0 ρ : Rho} {fp0 fp : FP} {i : Nat} {m : Md} {t t' t'' : Tr} {u : V} {a : Addr} {p : List Nat} {A : List Addr} {o : HO}
    (s1 : EStep K T F0 H0 σ ρ0 fp0 F H ρ fp) (hi : ρ[i]? = some (.own m t)) (hm : m.wr p) (hu : sg σ i = some u) (hp : t.at p = some t') (hv : pathV H u p = some (.ref a)) (hA : ∀ b ∈ A, ¬ Owns fp b) (hnA : A.Nodup) (hw : ∀ b ∈ A, H0 b = none ∨ Owns fp0 b)
    (ht : ∀ B, TrOk K F H (.ref a) t' B → B.Nodup → (∀ b ∈ A, b ∉ B) → a ∈ B ∧ ∃ B', TrOk K F (upd H a o) (.ref a) t'' B' ∧ B'.Nodup ∧ ∀ b ∈ B', b ∈ B ∨ b ∈ A) :
    ∃ fp', EStep K (T ++ [i]) F0 H0 σ ρ0 fp0 F (upd H a o) (ρ.set i (.own m (t.put p t''))) fp' ∧ (∀ b, Owns fp' b → Owns fp b ∨ b ∈ A) := by
  have E := s1.env
  obtain ⟨u', e1, q⟩ := E.sl i _ hi
  rw [hu] at e1; cases e1
  obtain ⟨v', pre, B, post, g1, g2, g3, g4⟩ := focus q hp
  rw [hv] at g1; cases g1
  have hnd := E.nd i
  rw [g2] at hnd
  have hndB : B.Nodup := (List.nodup_append.mp (List.nodup_append.mp hnd).2.1).1
  have inB : ∀ b ∈ B, b ∈ fp i := fun b z => by rw [g2]; exact List.mem_append_right _ (List.mem_append_left _ z)
  obtain ⟨haB, B', q', hndB', hB'⟩ := ht B g3 hndB fun b hb z => hA b hb ⟨i, inB b z⟩
  have hfree : ∀ b ∈ fp i, F b = none := fun b z => (q.mem b z).2
  have disj1 : ∀ b ∈ pre, ∀ c ∈ B ++ post, b ≠ c := (List.nodup_append.mp hnd).2.2
  have disj2 : ∀ b ∈ B, ∀ c ∈ post, b ≠ c := (List.nodup_append.mp (List.nodup_append.mp hnd).2.1).2.2
  have nea : ∀ b, b ∈ pre ∨ b ∈ post → b ≠ a := fun b z e => by
    rcases z with z | z
    · exact disj1 b z a (List.mem_append_left _ haB) e
    · exact disj2 a haB b z e.symm
  have hin : ∀ b, b ∈ pre ∨ b ∈ post → b ∈ fp i := fun b z => by
    rw [g2]
    rcases z with z | z
    · exact List.mem_append_left _ z
    · exact List.mem_append_right _ (List.mem_append_right _ z)
  obtain ⟨qn, _⟩ := g4 F (upd H a o) t'' B' (Same.refl _) (fun b z => ⟨upd_ne (nea b z), hfree b (hin b z)⟩) q'
  have hil : i < ρ.length := (List.getElem?_eq_some_iff.mp hi).1
  have haO : a ∈ fp i := inB a haB
  have mem' : ∀ b, b ∈ pre ++ (B' ++ post) → b ∈ fp i ∨ b ∈ A := fun b z => by
    rcases List.mem_append.mp z with z | z
    · exact .inl (hin b (.inl z))
    · rcases List.mem_append.mp z with z | z
      · exact (hB' b z).imp_left (inB b)
      · exact .inl (hin b (.inr z))
  have hndn : (pre ++ (B' ++ post)).Nodup := by
    have cross : ∀ b ∈ B', ∀ c, c ∈ pre ∨ c ∈ post → b ≠ c := fun b hb c hc e => by
      subst e
      rcases hB' b hb with z | z
      · rcases hc with w | w
        · exact disj1 b w b (List.mem_append_left _ z) rfl
        · exact disj2 b z b w rfl
      · exact hA b z ⟨i, hin b hc⟩
    refine List.nodup_append.mpr ⟨(List.nodup_append.mp hnd).1, List.nodup_append.mpr ⟨hndB', (List.nodup_append.mp (List.nodup_append.mp hnd).2.1).2.1, fun b hb c hc => cross b hb c (.inr hc)⟩, fun b hb c hc => ?_⟩
    rcases List.mem_append.mp hc with z | z
    · exact fun e => cross c z b (.inl hb) e.symm
    · exact disj1 b hb c (List.mem_append_right _ z)
  have ow : ∀ b, Owns (fset fp i (pre ++ (B' ++ post))) b → Owns fp b ∨ b ∈ A := fun b hb => by
    rcases hb.fset with z | z
    · exact (mem' b z).imp_left fun w => ⟨i, w⟩
    · exact .inl z
  have neJ : ∀ j, j ≠ i → ∀ b ∈ fp j, b ≠ a := fun j hj b hb e => by subst e; exact hj (E.ap j i b hb haO)
  have alK : AlOk (upd H a o) σ (ρ.set i (.own m (t.put p t''))) := by
    intro j k pa tt h1 h2
    have hji : i ≠ j := fun z => by
      subst z
      rw [List.getElem?_set_self hil] at h1
      cases h1
    rw [List.getElem?_set_ne hji] at h1
    by_cases hk : i = k
    · subst hk
      rw [List.getElem?_set_self hil] at h2
      cases h2
      obtain ⟨r', rfl⟩ := hm.2 pa rfl
      obtain ⟨tp, u1, v1, c1, c2, c3, c4⟩ := E.al j i pa t h1 hi
      rw [hu] at c2; cases c2
      obtain ⟨v2, pre1, B1, post1, k1, k2, k3, k4⟩ := focus q c1
      rw [c4] at k1; cases k1
      rw [at_appB c1] at hp
      rw [path_app c4] at hv
      obtain ⟨v3, pre2, B2, post2, l1, l2, l3, l4⟩ := focus k3 hp
      rw [hv] at l1; cases l1
      have nd1 := E.nd i
      rw [k2] at nd1
      have ndB1 : B1.Nodup := (List.nodup_append.mp (List.nodup_append.mp nd1).2.1).1
      have ndB2 : B2.Nodup := by rw [l2] at ndB1; exact (List.nodup_append.mp (List.nodup_append.mp ndB1).2.1).1
      have in1 : ∀ b ∈ B1, b ∈ fp i := fun b z => by rw [k2]; exact List.mem_append_right _ (List.mem_append_left _ z)
      have in2 : ∀ b ∈ B2, b ∈ B1 := fun b z => by rw [l2]; exact List.mem_append_right _ (List.mem_append_left _ z)
      obtain ⟨haB2, B3, q3, _, _⟩ := ht B2 l3 ndB2 fun b hb z => hA b hb ⟨i, in1 b (in2 b z)⟩
      have o1 : ∀ b, b ∈ pre1 ∨ b ∈ post1 → b ≠ a := fun b z e => by
        subst e
        rcases z with z | z
        · exact (List.nodup_append.mp nd1).2.2 b z b (List.mem_append_left _ (in2 b haB2)) rfl
        · exact (List.nodup_append.mp (List.nodup_append.mp nd1).2.1).2.2 b (in2 b haB2) b z rfl
      rw [l2] at ndB1
      have o2 : ∀ b, b ∈ pre2 ∨ b ∈ post2 → b ≠ a := fun b z e => by
        subst e
        rcases z with z | z
        · exact (List.nodup_append.mp ndB1).2.2 b z b (List.mem_append_left _ haB2) rfl
        · exact (List.nodup_append.mp (List.nodup_append.mp ndB1).2.1).2.2 b haB2 b z rfl
      have m1 : ∀ b, b ∈ pre1 ∨ b ∈ post1 → b ∈ fp i := fun b z => by
        rw [k2]
        rcases z with z | z
        · exact List.mem_append_left _ z
        · exact List.mem_append_right _ (List.mem_append_right _ z)
      have m2 : ∀ b, b ∈ pre2 ∨ b ∈ post2 → b ∈ fp i := fun b z => in1 b (by
        rw [l2]
        rcases z with z | z
        · exact List.mem_append_left _ z
        · exact List.mem_append_right _ (List.mem_append_right _ z))
      obtain ⟨n1, _⟩ := l4 F (upd H a o) t'' B3 (Same.refl _) (fun b z => ⟨upd_ne (o2 b z), hfree b (m2 b z)⟩) q3
      obtain ⟨_, n2⟩ := k4 F (upd H a o) _ _ (Same.refl _) (fun b z => ⟨upd_ne (o1 b z), hfree b (m1 b z)⟩) n1
      exact ⟨_, u, v1, by rw [put_app c1]; exact put_at c1, hu, c3, n2⟩
    · rw [List.getElem?_set_ne hk] at h2
      obtain ⟨tp, u1, v1, c1, c2, c3, c4⟩ := E.al j k pa tt h1 h2
      obtain ⟨u', e, qk⟩ := E.sl k _ h2
      rw [c2] at e; cases e
      exact ⟨tp, u1, v1, c1, c2, c3, path_stays qk c1 c4 fun b hb => upd_ne (neJ k (Ne.symm hk) b hb)⟩
  refine ⟨fset fp i (pre ++ (B' ++ post)), ⟨⟨⟨?_, by rw [List.length_set]; exact E.len, fun j s hs => ?_, fun j hj => ?_, fun j => ?_, fun j l b h1 h2 => ?_, E.tb.upd (E.ntb ⟨i, haO⟩), alK⟩, s1.st.fr, s1.st.nf, fun b hb => ?_, fun b ob hb hn nt => ?_, fun b hb => ?_, fun j mj tj hj hmj => ?_, fun j tj hj => ?_⟩, fun j mj tj hj => ?_, fun j hj => ?_⟩, ow⟩
  · intro b ob e
    rw [upd_ne fun z => by subst z; rw [hfree b haO] at e; cases e]
    exact E.sub b ob e
  · by_cases hji : i = j
    · subst hji
      rw [List.getElem?_set_self hil] at hs
      cases hs
      unfold fset
      rw [if_pos rfl]
      exact ⟨u, hu, qn⟩
    · rw [List.getElem?_set_ne hji] at hs
      unfold fset
      rw [if_neg (Ne.symm hji)]
      have qj := E.sl j s hs
      cases s with
      | no => trivial
      | al _ _ => trivial
      | val d => exact qj
      | own mj tj =>
        obtain ⟨w, e1, e2⟩ := qj
        exact ⟨w, e1, e2.move (Same.refl _) fun b hb => ⟨upd_ne (neJ j (Ne.symm hji) b hb), (e2.mem b hb).2⟩⟩
  · unfold fset
    by_cases hji : j = i
    · subst hji
      exact absurd (List.getElem?_set_self hil) (hj m _)
    · rw [if_neg hji]
      refine E.nil j fun mj tj z => hj mj tj ?_
      rw [List.getElem?_set_ne (Ne.symm hji)]
      exact z
  · unfold fset
    split
    · exact hndn
    · exact E.nd j
  · unfold fset at h1 h2
    split at h1
    · split at h2
      · omega
      · rename_i h3 h4
        rcases mem' b h1 with z | z
        · exact absurd (E.ap i l b z h2).symm h4
        · exact absurd ⟨l, h2⟩ (hA b z)
    · split at h2
      · rename_i h3 h4
        rcases mem' b h2 with z | z
        · exact absurd (E.ap j i b h1 z) h3
        · exact absurd ⟨j, h1⟩ (hA b z)
      · exact E.ap j l b h1 h2
  · by_cases e : b = a
    · subst e; rw [upd_same] at hb; cases hb
    · rw [upd_ne e] at hb; exact s1.st.dom b hb
  · have e : b ≠ a := fun z => by
      subst z
      rcases s1.st.own b ⟨i, haO⟩ with w | w
      · exact hn w
      · rw [hb] at w; cases w
    rw [upd_ne e]
    exact s1.st.frame b ob hb hn nt
  · rcases ow b hb with z | z
    · exact s1.st.own b z
    · exact (hw b z).symm
  · obtain ⟨_, m1, t1, h1, k1⟩ := s1.st.pin j mj tj hj hmj
    by_cases hji : i = j
    · subst hji
      rw [hi] at h1; cases h1
      exact ⟨rfl, _, _, List.getElem?_set_self hil, k1⟩
    · exact ⟨rfl, m1, t1, by rw [List.getElem?_set_ne hji]; exact h1, k1⟩
  · obtain ⟨_, h1, h2, h3⟩ := s1.st.lock j tj hj
    have hji : i ≠ j := fun z => by subst z; rw [hi] at h1; cases h1; exact hm.1 rfl
    refine ⟨rfl, by rw [List.getElem?_set_ne hji]; exact h1, ?_, fun b hb => ?_⟩
    · unfold fset; rw [if_neg (Ne.symm hji)]; exact h2
    · rw [upd_ne (neJ j (Ne.symm hji) b (by rw [h2]; exact hb))]; exact h3 b hb
  · obtain ⟨t1, h1⟩ := s1.ko j mj tj hj
    by_cases hji : i = j
    · subst hji
      rw [hi] at h1; cases h1
      exact ⟨_, List.getElem?_set_self hil⟩
    · exact ⟨t1, by rw [List.getElem?_set_ne hji]; exact h1⟩
  · have hji : i ≠ j := fun z => hj (List.mem_append_right _ (by simp [z]))
    obtain ⟨h1, h2, h3⟩ := s1.un j fun z => hj (List.mem_append_left _ z)
    refine ⟨by rw [List.getElem?_set_ne hji]; exact h1, ?_, fun b hb => ?_⟩
    · unfold fset; rw [if_neg (Ne.symm hji)]; exact h2
    · rw [upd_ne (neJ j (Ne.symm hji) b (by rw [h2]; exact hb))]; exact h3 b hb

noncomputable def rlP (K : Fg) : Rl K (Nat × List Nat) V := ⟨fun _ _ _ H' _ σ ρ' v r => ∃ u m t t', sg σ r.1 = some u ∧ ρ'[r.1]? = some (Sl.own m t) ∧ t.at r.2 = some t' ∧ pathV H' u r.2 = some v, fun _ h => h⟩
noncomputable def VP (X : Cx) (T : List Nat) (W : WV) (e : Expr) (f : M (Nat × List Nat)) : Prop := PE X e (fun σ H Q => TVg T W (rlP X.K) f σ H Q)
noncomputable def pVar (i : Nat) : M (Nat × List Nat) := fun ρ => match ρ[i]? with
  | some (.own _ _) => some (.ok (i, []) ρ)
  | _ => none
noncomputable def treeAt (ρ : Rho) (r : Nat × List Nat) : Option Tr := match ρ[r.1]? with
  | some (.own _ t) => t.at r.2
  | _ => none
section
variable {X : Cx} {T T1 T2 : List Nat} {W : WV} {fa fb : M Rv} {fp1 : M (Nat × List Nat)} {a b e : Expr} {pos : Pos}
theorem vp_var (i : Nat) {x : Str} {pos : Pos} (hN : X.N[i]? = some x := by rfl) (hv : Vis X.env.scope x := by first | exact Or.inl rfl | exact Or.inr (Or.inl rfl) | exact Or.inr (Or.inr rfl)) (hd : (x == ("__debug__" : Str)) = false := by decide)
    (hcd : (x == ("__classdict__" : Str)) = false := by decide) : VP X [] W (.Name x pos) (pVar i) := by
  refine pe_imp (pe_var hN hv hd hcd) fun σ H Q ⟨F, ρ, fp, o, E, e, P⟩ => ?_
  unfold pVar at e
  split at e
  · rename_i m t h
    cases ok_inj e
    obtain ⟨u, hu, q⟩ := E.sl i _ h
    exact ⟨u, sg_some.mp hu, P u H F fp (.refl E) ⟨u, m, t, t, hu, h, rfl, rfl⟩⟩
  · cases e
theorem place_step {K : Fg} {F H F1 H1 : Hp} {σ : Sg} {ρ ρ1 : Rho} {fp fp1 : FP} {v : V} {r : Nat × List Nat} (E : EnvOk K F H σ ρ fp) (s : EStep K T F H σ ρ fp F1 H1 ρ1 fp1) (hT : r.1 ∉ T)
    (h : ∃ u m t t', sg σ r.1 = some u ∧ ρ[r.1]? = some (Sl.own m t) ∧ t.at r.2 = some t' ∧ pathV H u r.2 = some v) : ∃ u m t t', sg σ r.1 = some u ∧ ρ1[r.1]? = some (Sl.own m t) ∧ t.at r.2 = some t' ∧ pathV H1 u r.2 = some v := by
  obtain ⟨u, m, t, t', h1, h2, h3, h4⟩ := h
  obtain ⟨a1, a2, a3⟩ := s.un r.1 hT
  obtain ⟨u', e1, q⟩ := E.sl r.1 _ h2
  rw [h1] at e1; cases e1
  exact ⟨u, m, t, t', h1, by rw [a1]; exact h2, h3, path_stays q h3 h4 a3⟩
theorem place_get {K : Fg} {F H : Hp} {σ : Sg} {ρ : Rho} {fp : FP} {v : V} {r : Nat × List Nat} {t0 : Tr} (E : EnvOk K F H σ ρ fp) (h : ∃ u m t t', sg σ r.1 = some u ∧ ρ[r.1]? = some (Sl.own m t) ∧ t.at r.2 = some t' ∧ pathV H u r.2 = some v) (ht : treeAt ρ r = some t0) :
    ∃ B, TrOk K F H v t0 B ∧ ∀ b ∈ B, b ∈ fp r.1 := by
  obtain ⟨u, m, t, t', h1, h2, h3, h4⟩ := h
  unfold treeAt at ht
  rw [h2] at ht
  simp only [h3] at ht
  cases ht
  obtain ⟨u', e1, q⟩ := E.sl r.1 _ h2
  rw [h1] at e1; cases e1
  obtain ⟨v', pre, B, post, g1, g2, g3, g4⟩ := focus q h3
  rw [h4] at g1; cases g1
  exact ⟨B, g3, fun b z => by rw [g2]; exact List.mem_append_right _ (List.mem_append_left _ z)⟩
noncomputable def cLeaf (f : M (Nat × List Nat)) : M Rv := bnd f fun r => fun ρ => match treeAt ρ r with
  | some (.dat d) => some (.ok (.d d) ρ)
  | _ => none
noncomputable def pIx (T2 : List Nat) (f : M (Nat × List Nat)) (g : M Rv) : M (Nat × List Nat) := bnd f fun r => bnd g fun y => fun ρ => if T2.contains r.1 then none else match treeAt ρ r, y with
  | some (.lst ts), .d (.int n) => (match ixN ts.length n with
    | some j => some (.ok (r.1, r.2 ++ [j]) ρ)
    | none => none)
  | some (.tup ts), .d (.int n) => (match ixN ts.length n with
    | some j => some (.ok (r.1, r.2 ++ [j]) ρ)
    | none => none)
  | _, _ => none
theorem at_app {t' : Tr} : ∀ {p : List Nat} {t : Tr}, t.at p = some t' → ∀ (j : Nat), t.at (p ++ [j]) = (kids t')[j]?
  | [], t, h, j => by
    simp only [Tr.at] at h
    cases h
    simp only [List.nil_append, Tr.at]
    cases q : (kids t')[j]? <;> simp
  | i :: p, t, h, j => by
    simp only [Tr.at, List.cons_append] at h ⊢
    cases q : (kids t)[i]? with
    | none => rw [q] at h; cases h
    | some k => rw [q] at h; exact at_app h j
theorem pathV_app {H : Hp} {w : V} : ∀ {p : List Nat} {v : V}, pathV H v p = some w → ∀ (j : Nat), pathV H v (p ++ [j]) = (kidsV H w)[j]?
  | [], v, h, j => by
    simp only [pathV] at h
    cases h
    simp only [List.nil_append, pathV]
    cases q : (kidsV H w)[j]? <;> simp
  | i :: p, v, h, j => by
    simp only [pathV, List.cons_append] at h ⊢
    cases q : (kidsV H v)[i]? with
    | none => rw [q] at h; cases h
    | some k => rw [q] at h; exact pathV_app h j
theorem atI_of {α : Type} {xs : List α} {n : Int} {j : Nat} (h : ixN xs.length n = some j) : atI xs n = xs[j]? := by
  unfold atI
  rw [h]
  rfl
theorem ixN_lt {m : Nat} {n : Int} {j : Nat} (h : ixN m n = some j) : j < m := by
  unfold ixN at h
  split at h
  · split at h
    · cases h; omega
    · cases h
  · split at h
    · cases h; omega
    · cases h
theorem place_kid {K : Fg} {H : Hp} {σ : Sg} {ρ : Rho} {v w : V} {r : Nat × List Nat} {t0 : Tr} {j : Nat} (h : ∃ u m t t', sg σ r.1 = some u ∧ ρ[r.1]? = some (Sl.own m t) ∧ t.at r.2 = some t' ∧ pathV H u r.2 = some v) (ht : treeAt ρ r = some t0) (hj : j < (kids t0).length) (hw : (kidsV H v)[j]? = some w) :
    ∃ u m t t', sg σ r.1 = some u ∧ ρ[r.1]? = some (Sl.own m t) ∧ t.at (r.2 ++ [j]) = some t' ∧ pathV H u (r.2 ++ [j]) = some w := by
  obtain ⟨u, m, t, t', h1, h2, h3, h4⟩ := h
  unfold treeAt at ht
  rw [h2] at ht
  simp only [h3] at ht
  cases ht
  refine ⟨u, m, t, (kids t0)[j], h1, h2, ?_, ?_⟩
  · rw [at_app h3, List.getElem?_eq_getElem hj]
  · rw [pathV_app h4]; exact hw
theorem vp_ix (ha : VP X T1 W a fp1) (hb : VE X T2 W b fb) (hs : PlainIx b := by intro _ _; rfl) : VP X (T1 ++ T2) W (.Subscript a b pos) (pIx T2 fp1 fb) :=
  pe_imp (pe_ix ix_seq ha hb hs) fun σ H Q ⟨F, ρ, fp, o, E, e, P⟩ => by
    refine tv_bnd E e P (fun i hi => List.mem_append_left _ hi) fun r ρ1 v H1 F1 fp1 s1 r1 e1 P1 => ?_
    refine tv_bnd s1.env e1 P1 (fun i hi => List.mem_append_right _ hi) fun y ρ2 w H2 F2 fp2 s2 r2 e2 P2 => ?_
    split at e2
    · cases e2
    · rename_i hT
      have hT' : r.1 ∉ T2 := fun z => hT (List.contains_iff_mem.mpr z)
      have pl := place_step s1.env s2 hT' r1
      split at e2
      · rename_i ts n ht
        split at e2
        · rename_i j hj
          cases ok_inj e2
          obtain ⟨B, q, _⟩ := place_get s2.env pl ht
          cases r2
          cases q with
          | @lst a0 vs _ A h1 h2 h3 =>
            have hl := h3.len
            have hjl := ixN_lt hj
            refine .inl ⟨a0, vs, n, vs[j]'(by omega), rfl, rfl, SqL.of h1, ?_, P2 _ H2 F2 fp2 (.refl s2.env) ?_⟩
            · rw [atI_of (by rw [hl]; exact hj), List.getElem?_eq_getElem]
            · exact place_kid (K := X.K) pl ht hjl (by simp [kidsV, h1, List.getElem?_eq_getElem, hl, hjl])
        · cases e2
      · rename_i ts n ht
        split at e2
        · rename_i j hj
          cases ok_inj e2
          obtain ⟨B, q, _⟩ := place_get s2.env pl ht
          cases r2
          cases q with
          | @tup a0 vs _ A h1 h2 h3 =>
            have hl := h3.len
            have hjl := ixN_lt hj
            refine .inr (.inl ⟨a0, vs, n, vs[j]'(by omega), rfl, rfl, SqT.of h1, ?_, P2 _ H2 F2 fp2 (.refl s2.env) ?_⟩)
            · rw [atI_of (by rw [hl]; exact hj), List.getElem?_eq_getElem]
            · exact place_kid (K := X.K) pl ht hjl (by simp [kidsV, h1, List.getElem?_eq_getElem, hl, hjl])
        · cases e2
      · cases e2

noncomputable def modeOk (ρ : Rho) (i : Nat) : Bool := match ρ[i]? with
  | some (.own .lock _) => false
  | some (.own (.bor _) _) => false
  | some (.own _ _) => true
  | _ => false
noncomputable def putAt (ρ : Rho) (r : Nat × List Nat) (t' : Tr) : Rho := match ρ[r.1]? with
  | some (.own m t) => ρ.set r.1 (.own m (t.put r.2 t'))
  | _ => ρ
noncomputable def app1 (T2 : List Nat) (r : Nat × List Nat) (tn : Tr) : MS := fun ρ => if T2.contains r.1 || !modeOk ρ r.1 then none else match treeAt ρ r with
  | some (.lst ts) => if small (ts.length + 1) then some (.nx (putAt ρ r (.lst (ts ++ [tn])))) else none
  | _ => none
noncomputable def isLst : Option Tr → Bool
  | some (.lst _) => true
  | _ => false
noncomputable def sApp (T2 : List Nat) (f : M (Nat × List Nat)) (g : M Tr) : MS := sE f fun r => fun ρ => if isLst (treeAt ρ r) then sE g (app1 T2 r) ρ else none
noncomputable def ext1 (T2 : List Nat) (r : Nat × List Nat) (x : Rv) : MS := fun ρ => if T2.contains r.1 || !modeOk ρ r.1 then none else match treeAt ρ r, x with
  | some (.lst ts), .d (.list ds) => if small (ts.length + ds.length) then some (.nx (putAt ρ r (.lst (ts ++ ds.map .dat)))) else none
  | _, _ => none
noncomputable def sExt (T2 : List Nat) (f : M (Nat × List Nat)) (g : M Rv) : MS := sE f fun r => fun ρ => if isLst (treeAt ρ r) then sE g (ext1 T2 r) ρ else none
end
theorem mode_of {ρ : Rho} {i : Nat} {m : Md} {t : Tr} {r : List Nat} (h : modeOk ρ i = true) (e : ρ[i]? = some (.own m t)) : m.wr r := by
  unfold modeOk at h
  rw [e] at h
  cases m with
  | lock => cases h
  | bor _ => cases h
  | free => exact ⟨(fun z => nomatch z), (fun p z => nomatch z)⟩
  | pin => exact ⟨(fun z => nomatch z), (fun p z => nomatch z)⟩
theorem touch_of {T2 : List Nat} {i : Nat} {ρ : Rho} (h : ¬ (T2.contains i || !modeOk ρ i) = true) : i ∉ T2 ∧ modeOk ρ i = true := by
  cases h1 : T2.contains i with
  | true => rw [h1] at h; exact absurd rfl h
  | false =>
    cases h2 : modeOk ρ i with
    | false => rw [h1, h2] at h; exact absurd rfl h
    | true => exact ⟨fun z => (by rw [List.contains_iff_mem.mpr z] at h1; cases h1), rfl⟩
section
variable {X : Cx} {T T1 T2 : List Nat} {W : WV} {fp1 : M (Nat × List Nat)} {fn : M Tr} {o e : Expr} {pos apos cpos : Pos}
theorem tyL {K : Fg} {H : Hp} {a : Addr} {vs : List V} (h : H a = some (.lst vs)) : tyV K "list" (.ref a) H := Or.inl ⟨rfl, _, Or.inl (Or.inl h)⟩
theorem trs_apps {K : Fg} {F H : Hp} {ws : List V} {us : List Tr} {A : List Addr} (q : TrsOk K F H ws us A) : ∀ {vs : List V} {ts : List Tr} {B : List Addr}, TrsOk K F H vs ts B → TrsOk K F H (vs ++ ws) (ts ++ us) (B ++ A)
  | _, _, _, .nil => by simpa using q
  | _, _, _, .cons h r => by
    have := TrsOk.cons h (trs_apps q r)
    simpa [List.append_assoc] using this
theorem mut_lst {K : Fg} {F0 H0 F H : Hp} {σ : Sg} {ρ0 ρ : Rho} {fp0 fp : FP} {r : Nat × List Nat} {v : V} {ts us : List Tr} {A : List Addr} {ws : List V} (s1 : EStep K T F0 H0 σ ρ0 fp0 F H ρ fp) (hm : modeOk ρ r.1 = true)
    (pl : ∃ u m t t', sg σ r.1 = some u ∧ ρ[r.1]? = some (Sl.own m t) ∧ t.at r.2 = some t' ∧ pathV H u r.2 = some v) (ht : treeAt ρ r = some (.lst ts)) (hA : ∀ b ∈ A, ¬ Owns fp b) (hnA : A.Nodup) (hw : ∀ b ∈ A, H0 b = none ∨ Owns fp0 b) (q : TrsOk K F H ws us A) :
    ∃ a vs, v = .ref a ∧ H a = some (.lst vs) ∧ vs.length = ts.length ∧ ∃ fp', EStep K (T ++ [r.1]) F0 H0 σ ρ0 fp0 F (upd H a (.lst (vs ++ ws))) (putAt ρ r (.lst (ts ++ us))) fp' := by
  obtain ⟨B, qB, hB⟩ := place_get s1.env pl ht
  obtain ⟨u, m, t, t', h1, h2, h3, h4⟩ := pl
  have ht' : t.at r.2 = some (.lst ts) := by
    unfold treeAt at ht
    rw [h2] at ht
    exact ht
  cases qB with
  | @lst a vs _ B0 e1 e2 e3 =>
    refine ⟨a, vs, rfl, e1, e3.len, ?_⟩
    obtain ⟨fp', st, _⟩ := mut_step (o := .lst (vs ++ ws)) (t'' := .lst (ts ++ us)) s1 h2 (mode_of hm h2) h1 ht' h4 hA hnA hw fun B1 q1 nB1 dj => by
      cases q1 with
      | @lst a _ _ B2 f1 f2 f3 =>
        rw [e1] at f1; cases f1
        have nd := List.nodup_cons.mp nB1
        have aA : ∀ b ∈ A, b ≠ a := fun b hb z => by subst z; exact dj b hb List.mem_cons_self
        refine ⟨List.mem_cons_self, a :: (B2 ++ A), .lst upd_same f2 (trs_apps (q.move (Same.refl _) fun b hb => ⟨upd_ne (aA b hb), (q.mem b hb).2⟩) (f3.move (Same.refl _) fun b hb => ⟨upd_ne fun z => by subst z; exact nd.1 hb, (f3.mem b hb).2⟩)), ?_, fun b hb => ?_⟩
        · refine List.nodup_cons.mpr ⟨fun z => ?_, List.nodup_append.mpr ⟨nd.2, hnA, fun b hb c hc e => ?_⟩⟩
          · rcases List.mem_append.mp z with z | z
            · exact nd.1 z
            · exact aA a z rfl
          · subst e
            exact dj b hc (List.mem_cons_of_mem _ hb)
        · rcases List.mem_cons.mp hb with z | z
          · exact .inl (by rw [z]; exact List.mem_cons_self)
          · exact (List.mem_append.mp z).imp_left (List.mem_cons_of_mem _)
    refine ⟨fp', ?_⟩
    have e : putAt ρ r (.lst (ts ++ us)) = ρ.set r.1 (.own m (t.put r.2 (.lst (ts ++ us)))) := by
      unfold putAt
      rw [h2]
    rw [e]
    exact st
theorem isLst_some {o : Option Tr} (h : isLst o = true) : ∃ ts, o = some (.lst ts) := by
  unfold isLst at h
  split at h
  · exact ⟨_, rfl⟩
  · cases h
theorem place_list {K : Fg} {F H : Hp} {σ : Sg} {ρ : Rho} {fp : FP} {v : V} {r : Nat × List Nat} (E : EnvOk K F H σ ρ fp) (h : ∃ u m t t', sg σ r.1 = some u ∧ ρ[r.1]? = some (Sl.own m t) ∧ t.at r.2 = some t' ∧ pathV H u r.2 = some v) (ht : isLst (treeAt ρ r) = true) : tyV K "list" v H := by
  obtain ⟨ts, e⟩ := isLst_some ht
  obtain ⟨B, q, _⟩ := place_get E h e
  cases q with
  | lst h1 _ _ => exact tyL h1
theorem vs_app (h : PE X (.Call (.Attribute o "append" apos) [e] [] cpos) (tBM X.K "list" rAppend (fun σ H Q => TVg T1 W (rlP X.K) fp1 σ H Q) (tCons (tVN X.K T2 W fn) tNil)))
    (hs : swapsWith (.Call (.Attribute o "append" apos) [e] [] cpos) none pos.line X.env = pure false := by rfl) :
    VS X W (.Expr (.Call (.Attribute o "append" apos) [e] [] cpos) pos) (sApp T2 fp1 fn) :=
  ps_imp (ps_expr h hs) fun D σ H ⟨F, ρ, fp, ou, E, q, P⟩ => by
    refine tv_st E q P fun r ρ1 v H1 F1 fp1 s1 r1 e1 P1 => ?_
    split at e1
    · rename_i hl
      refine ⟨place_list s1.env r1 hl, ?_⟩
      refine tv_st (T := T2) s1.env e1 P1 fun tn ρ2 w H2 F2 fp2 s2 ⟨A, n⟩ e2 _ => ?_
      unfold app1 at e2
      split at e2
      · cases e2
      · rename_i hc
        obtain ⟨hT, hc'⟩ := touch_of hc
        have pl := place_step s1.env s2 hT r1
        split at e2
        · rename_i ts hts
          split at e2
          · rename_i hz
            cases (Option.some.inj e2)
            obtain ⟨a, vs, rfl, ha, hlen, fp', st⟩ := mut_lst s2 hc' pl hts n.out n.nd n.new (ws := [w]) (us := [tn]) (by have := TrsOk.cons n.ok TrsOk.nil; simpa using this)
            refine ⟨a, vs, w, rfl, rfl, ha, ?_, P1 σ _ F2 fp' st.st⟩
            have := small_iff.mp hz
            omega
          · cases e2
        · cases e2
    · cases e1
noncomputable def rExtR : V → List V → Hp → VK → Prop := fun x vs H Q => ∃ l b xs zs, x = .ref l ∧ vs = [.ref b] ∧ H l = some (.lst xs) ∧ Rd H b (.lst zs) ∧ xs.length + zs.length ≤ sizeLine ∧ Q .non (upd H l (.lst (xs ++ zs)))
theorem mt_extR : MtM X "list.extend" rExtR := by
  intro pins s σ H x vs v us Q I rx rv h
  obtain ⟨l, b, xs, zs, rfl, rfl, hH, hB, hz, q⟩ := h
  cases rx
  obtain ⟨u, rfl, ru⟩ := rv.one
  cases ru
  obtain ⟨z, its, n, r, hl, e⟩ := I.lstM hH
  obtain ⟨z2, its2, n2, r2, hl2, e2⟩ := lstR I hB
  have hsz : its.toArray.size + its2.toArray.size ≤ sizeLine := by rw [List.size_toArray, List.size_toArray]; omega
  have hlong : ¬ (!its.toArray.isEmpty && Builtin.List.listTooLong (its.toArray.size + its2.toArray.size)) = true := by
    rw [notLongL hsz, Bool.and_false]
    exact Bool.false_ne_true
  refine call_meets F.slot_list_extend ⟨_, e, rfl⟩ F.entry_list_extend (F.args_list_extend_2 _ _)
    (AutoSeq1.list_extend_list_list_0 l its.toArray n b its2.toArray n2 hlong (by rw [List.size_toArray]; omega) (by omega)) ⟨e, e2, ?_⟩
  refine ⟨.non, _, I.lset (its' := its ++ its2) hH e (by simp) (r.append r2) ?_, rfl, q⟩
  rw [List.length_append]
  omega
variable {fa : M Rv}
theorem vs_ext (h : PE X (.Call (.Attribute o "extend" apos) [e] [] cpos) (tBM X.K "list" rExtR (fun σ H Q => TVg T1 W (rlP X.K) fp1 σ H Q) (tCons (tV X.K T2 W fa) tNil)))
    (hs : swapsWith (.Call (.Attribute o "extend" apos) [e] [] cpos) none pos.line X.env = pure false := by rfl) :
    VS X W (.Expr (.Call (.Attribute o "extend" apos) [e] [] cpos) pos) (sExt T2 fp1 fa) :=
  ps_imp (ps_expr h hs) fun D σ H ⟨F, ρ, fp, ou, E, q, P⟩ => by
    refine tv_st E q P fun r ρ1 v H1 F1 fp1 s1 r1 e1 P1 => ?_
    split at e1
    · rename_i hl
      refine ⟨place_list s1.env r1 hl, ?_⟩
      refine tv_st (T := T2) s1.env e1 P1 fun x ρ2 w H2 F2 fp2 s2 r2 e2 _ => ?_
      unfold ext1 at e2
      split at e2
      · cases e2
      · rename_i hc
        obtain ⟨hT, hc'⟩ := touch_of hc
        have pl := place_step s1.env s2 hT r1
        split at e2
        · rename_i ts ds hts
          split at e2
          · rename_i hz
            cases (Option.some.inj e2)
            cases r2 with
            | @lst b zs _ hb hz2 =>
              obtain ⟨a, vs, rfl, ha, hlen, fp', st⟩ := mut_lst (A := []) s2 hc' pl hts (fun b hb => nomatch hb) List.nodup_nil (fun b hb => nomatch hb) (trs_dat (H := H2) hz2)
              refine ⟨a, b, vs, zs, rfl, rfl, ha, rd_mono s2.env.sub hb, ?_, P1 σ _ F2 fp' st.st⟩
              have := small_iff.mp hz
              rw [dqAll_len hz2]
              omega
          · cases e2
        · cases e2
    · cases e1
end
end VL

end

section
set_option Elab.async false
set_option linter.all false
set_option maxRecDepth 100000
namespace VL
open PySem PySem.Spec PyProof.Rows L2

section
variable {X : Cx} {T T1 T2 T3 : List Nat} {W : WV} {fp1 : M (Nat × List Nat)} {fa fb : M Rv} {o i e : Expr} {pos tpos : Pos}
noncomputable def setIx1 (T2 : List Nat) (d : PyData) (r : Nat × List Nat) (y : Rv) : MS := fun ρ => if T2.contains r.1 || !modeOk ρ r.1 then none else match treeAt ρ r, y with
  | some (.lst ts), .d (.int n) => (match ixN ts.length n with
    | some j => some (.nx (putAt ρ r (.lst (ts.set j (.dat d)))))
    | none => none)
  | _, _ => none
noncomputable def sSetIx (T2 : List Nat) (fe : M Rv) (f : M (Nat × List Nat)) (fi : M Rv) : MS := sE fe fun x => match x with
  | .d d => sE f fun r => sE fi (setIx1 T2 d r)
  | .o _ => fun _ => none
theorem vs_setIx (he : VE X T1 W e fa) (ho : VP X T2 W o fp1) (hi : VE X T3 W i fb)
    (ha : ∀ v, assign (.Subscript o i tpos) X.env v = (do
      let ov ← holding [v] (eval o X.env)
      let iv ← holding [v, ov] (eval i X.env)
      standAt tpos
      holding [v, ov, iv] (setItem ov iv v)
      release [v, ov, iv] []) := by intro _; rfl)
    (hs : swapsWithSole [.Subscript o i tpos] e pos.line X.env = pure false := by rfl) (hw : swappedStores [.Subscript o i tpos] e X.env = pure none := by rfl)
    (h1 : (assignEach [.Subscript o i tpos] X.env).map (·.2) = [assign (.Subscript o i tpos) X.env] := by rfl) : VS X W (.Assign [.Subscript o i tpos] e pos) (sSetIx T3 fa fp1 fb) :=
  ps_imp (ps_asg he (pg_sub ho hi set_list ha) hs hw h1) fun D σ H ⟨F, ρ, fp, ou, E, q, P⟩ => by
    refine tv_st E q P fun x ρ1 v H1 F1 fp1 s1 r1 e1 P1 => ?_
    cases x with
    | o _ => cases e1
    | d d =>
      refine tv_st (T := T2) s1.env e1 P1 fun r ρ2 w H2 F2 fp2 s2 r2 e2 P2 => ?_
      refine tv_st (T := T3) s2.env e2 P2 fun y ρ3 z H3 F3 fp3 s3 r3 e3 _ => ?_
      unfold setIx1 at e3
      split at e3
      · cases e3
      · rename_i hc
        obtain ⟨hT, hc'⟩ := touch_of hc
        have pl := place_step s2.env s3 hT r2
        split at e3
        · rename_i ts n hts
          split at e3
          · rename_i j hj
            cases (Option.some.inj e3)
            cases r3
            have hd3 : Dq X.K F3 v d := dq_mono (s2.st.fr.trans s3.st.fr) _ _ r1
            obtain ⟨B, qB, hB⟩ := place_get s3.env pl hts
            obtain ⟨u, m, t, t', h1, h2, h3, h4⟩ := pl
            have ht' : t.at r.2 = some (.lst ts) := by
              unfold treeAt at hts
              rw [h2] at hts
              exact hts
            have hjl := ixN_lt hj
            cases qB with
            | @lst a vs _ B0 f1 f2 f3 =>
              have hlen := f3.len
              obtain ⟨fp', st, _⟩ := mut_step (A := []) (o := .lst (vs.set j v)) (t'' := .lst (ts.set j (.dat d))) s3 h2 (mode_of hc' h2) h1 ht' h4 (fun b hb => nomatch hb) List.nodup_nil (fun b hb => nomatch hb) fun B1 q1 nB1 _ => by
                cases q1 with
                | @lst a _ _ B2 g1 g2 g3 =>
                  rw [f1] at g1; cases g1
                  have nd := List.nodup_cons.mp nB1
                  obtain ⟨w1, pre, Bj, post, k1, k2, k3, k4⟩ := trs_repl (j := j) g3 (List.getElem?_eq_getElem hjl)
                  refine ⟨List.mem_cons_self, a :: (pre ++ post), ?_, ?_, fun b hb => ?_⟩
                  · refine .lst upd_same g2 ?_
                    have sub : ∀ b, b ∈ pre ∨ b ∈ post → b ∈ B2 := fun b hb => by
                      rw [k2]
                      rcases hb with z | z
                      · exact List.mem_append_left _ z
                      · exact List.mem_append_right _ (List.mem_append_right _ z)
                    have z := k4 F3 (upd H3 a (.lst (vs.set j v))) v (.dat d) [] (Same.refl _) (fun b hb => ⟨upd_ne fun z => by subst z; exact nd.1 (sub b hb), (g3.mem b (sub b hb)).2⟩) (.dat hd3)
                    exact z
                  · have nB2 := nd.2
                    rw [k2] at nB2
                    refine List.nodup_cons.mpr ⟨fun z => nd.1 ?_, ?_⟩
                    · rw [k2]
                      rcases List.mem_append.mp z with z | z
                      · exact List.mem_append_left _ z
                      · exact List.mem_append_right _ (List.mem_append_right _ z)
                    · exact List.nodup_append.mpr ⟨(List.nodup_append.mp nB2).1, (List.nodup_append.mp (List.nodup_append.mp nB2).2.1).2.1, fun b hb c hc => (List.nodup_append.mp nB2).2.2 b hb c (List.mem_append_right _ hc)⟩
                  · rcases List.mem_cons.mp hb with z | z
                    · exact .inl (by rw [z]; exact List.mem_cons_self)
                    · refine .inl (List.mem_cons_of_mem _ ?_)
                      rw [k2]
                      rcases List.mem_append.mp z with z | z
                      · exact List.mem_append_left _ z
                      · exact List.mem_append_right _ (List.mem_append_right _ z)
              have e : putAt ρ3 r (.lst (ts.set j (.dat d))) = ρ3.set r.1 (.own m (t.put r.2 (.lst (ts.set j (.dat d))))) := by
                unfold putAt
                rw [h2]
              refine ⟨a, vs, n, j, rfl, rfl, f1, by rw [hlen]; exact hj, P2 σ _ F3 fp' ?_⟩
              rw [e]
              exact st.st
          · cases e3
        · cases e3
end

section
variable {X : Cx} {T : List Nat} {W : WV} {fa : M Rv} {e : Expr} {pos : Pos}
noncomputable def tabD (tb : List (Str × PyData)) (x : Rv) : M Rv := fun ρ => match x with
  | .d (.str z) => (match tb.lookup z with
    | some d => some (.ok (.d d) ρ)
    | none => none)
  | _ => none
noncomputable def cTab (tb : List (Str × PyData)) (f : M Rv) : M Rv := bnd f (tabD tb)
theorem ve_tab {tb : List (Str × PyData)} {x : Str} {p : Addr} {px : Pos} (hg : Gl X x) (hm : X.mg x = some (.ref p)) (hk : ∀ z d, tb.lookup z = some d → ∃ v, KDct X.K X.w p z v ∧ ∀ F, Dq X.K F v d) (he : VE X T W e fa) (hs : PlainIx e := by intro _ _; rfl) (hdb : (x == ("__debug__" : Str)) = false := by decide) :
    VE X T W (.Subscript (.Name x px) e pos) (cTab tb fa) :=
  pe_imp (pe_ix ix_kdict (pe_glob (v := .ref p) hg hm rfl hdb) he hs) fun σ H Q ⟨F, ρ, fp, o, E, q, P⟩ => by
    refine tv_bnd E q P (fun i hi => hi) fun y ρ1 v H1 F1 fp1 s1 r1 e1 P1 => ?_
    unfold tabD at e1
    split at e1
    · rename_i z
      split at e1
      · rename_i d hd
        cases ok_inj e1
        cases r1
        obtain ⟨w, h1, h2⟩ := hk z d hd
        exact ⟨p, z, w, rfl, rfl, h1, P1 _ H1 F1 fp1 (.refl s1.env) (h2 F1)⟩
      · cases e1
    · cases e1
end
section
variable {X : Cx} {T1 T2 T3 : List Nat} {W : WV} {fp1 : M (Nat × List Nat)} {fa : M Rv} {fn : M Tr} {o e : Expr} {apos cpos pos : Pos}
theorem vs_appd (ho : VP X T1 W o fp1) (hn : VN X T2 W e fn) (hT : T2 = T3 := by rfl) (hbase : attributeBase o "append" X.env (eval o X.env) = eval o X.env := by rfl)
    (hfew : ((backTo cpos (starEach [e] X.env)).all (fun x => !x.1) && (backToKw cpos (keywordEach [] X.env)).all (fun x => x.1.isSome)
      && decide (([e] : List Expr).length + ([] : List Keyword).length + (if ([] : List Keyword).isEmpty then 0 else 1) < 30)) = true := by rfl)
    (hline : (apos.endLine == cpos.line) = true := by rfl) (hst : starEach [e] X.env = (false, eval e X.env) :: starEach [] X.env := by rfl) (hplain : (backTo cpos (starEach [] X.env)).any (·.1) = false := by rfl)
    (hs : swapsWith (.Call (.Attribute o "append" apos) [e] [] cpos) none pos.line X.env = pure false := by rfl) :
    VS X W (.Expr (.Call (.Attribute o "append" apos) [e] [] cpos) pos) (sApp T3 fp1 fn) :=
  hT ▸ vs_app (pe_bm PySem.F.plainAttrs_list PySem.F.slot_list_append PySem.F.type_list_append mt_append ho (pa_cons hn pa_nil hst) hbase hfew hline hst hplain) hs
theorem vs_extd (ho : VP X T1 W o fp1) (hn : VE X T2 W e fa) (hT : T2 = T3 := by rfl) (hbase : attributeBase o "extend" X.env (eval o X.env) = eval o X.env := by rfl)
    (hfew : ((backTo cpos (starEach [e] X.env)).all (fun x => !x.1) && (backToKw cpos (keywordEach [] X.env)).all (fun x => x.1.isSome)
      && decide (([e] : List Expr).length + ([] : List Keyword).length + (if ([] : List Keyword).isEmpty then 0 else 1) < 30)) = true := by rfl)
    (hline : (apos.endLine == cpos.line) = true := by rfl) (hst : starEach [e] X.env = (false, eval e X.env) :: starEach [] X.env := by rfl) (hplain : (backTo cpos (starEach [] X.env)).any (·.1) = false := by rfl)
    (hs : swapsWith (.Call (.Attribute o "extend" apos) [e] [] cpos) none pos.line X.env = pure false := by rfl) :
    VS X W (.Expr (.Call (.Attribute o "extend" apos) [e] [] cpos) pos) (sExt T3 fp1 fa) :=
  hT ▸ vs_ext (pe_bm PySem.F.plainAttrs_list PySem.F.slot_list_extend PySem.F.type_list_extend mt_extR ho (pa_cons hn pa_nil hst) hbase hfew hline hst hplain) hs
end
theorem al_set {K : Fg} {F H : Hp} {σ : Sg} {ρ : Rho} {fp : FP} {i : Nat} {s : Sl} (E : EnvOk K F H σ ρ fp) (hi : i < ρ.length) (hp : plainSl s = true) : AlOk H σ (ρ.set i s) := E.al' (fun j k p h => by
    by_cases hji : i = j
    · subst hji
      rw [List.getElem?_set_self hi] at h
      cases h
      cases hp
    · rw [List.getElem?_set_ne hji] at h
      exact ⟨h, rfl⟩) fun k p t h => by
    by_cases hji : i = k
    · subst hji
      rw [List.getElem?_set_self hi] at h
      cases h
      cases hp
    · rw [List.getElem?_set_ne hji] at h
      exact ⟨h, rfl, fun _ _ => rfl⟩
section
variable {X : Cx} {W : WV} {pos pos' : Pos}
noncomputable def sRetV (i : Nat) : MS := fun ρ => match ρ[i]? with
  | some (.val d) => some (.rt (.dat d) ρ)
  | some (.own .free t) => some (.rt t (ρ.set i .no))
  | _ => none
theorem vs_retV (i : Nat) {x : Str} (hN : X.N[i]? = some x := by rfl) (hv : Vis X.env.scope x := by first | exact Or.inl rfl | exact Or.inr (Or.inl rfl) | exact Or.inr (Or.inr rfl)) (hd : (x == ("__debug__" : Str)) = false := by decide)
    (hcd : (x == ("__classdict__" : Str)) = false := by decide) : VS X W (.Return (some (.Name x pos')) pos) (sRetV i) :=
  ps_imp (ps_ret (pe_var hN hv hd hcd)) fun D σ H ⟨F, ρ, fp, o, E, e, P⟩ => by
    unfold sRetV at e
    split at e
    · rename_i d h
      cases (Option.some.inj e)
      obtain ⟨u, hu, q⟩ := E.sl i _ h
      exact ⟨u, sg_some.mp hu, P u [] σ H F fp (.refl E) ⟨.dat q, List.nodup_nil, (fun b hb => nomatch hb), (fun b hb => nomatch hb)⟩⟩
    · rename_i t h
      cases (Option.some.inj e)
      obtain ⟨u, hu, q⟩ := E.sl i _ h
      have hi : i < ρ.length := (List.getElem?_eq_some_iff.mp h).1
      have alN : AlOk H σ (ρ.set i .no) := al_set E hi rfl
      refine ⟨u, sg_some.mp hu, P u (fp i) σ H F (fset fp i []) ⟨⟨E.sub, by rw [List.length_set]; exact E.len, fun j s hs => ?_, fun j hj => ?_, fun j => ?_, fun j l b h1 h2 => ?_, E.tb, alN⟩, Same.refl _, fun _ h h' => absurd h h', fun _ h => h, fun _ _ h _ _ => h, fun b hb => ?_, fun j mj tj hj hmj => ?_, fun j tj hj => ?_⟩ ⟨q, E.nd i, fun b hb => .inr ⟨i, hb⟩, fun b hb z => ?_⟩⟩
      · unfold fset
        by_cases hji : i = j
        · subst hji
          rw [List.getElem?_set_self hi] at hs
          cases hs
          trivial
        · rw [List.getElem?_set_ne hji] at hs
          rw [if_neg (Ne.symm hji)]
          exact E.sl j s hs
      · unfold fset
        by_cases hji : j = i
        · rw [if_pos hji]
        · rw [if_neg hji]
          refine E.nil j fun m t z => hj m t ?_
          rw [List.getElem?_set_ne (Ne.symm hji)]
          exact z
      · unfold fset
        split
        · exact List.nodup_nil
        · exact E.nd j
      · unfold fset at h1 h2
        split at h1
        · cases h1
        · split at h2
          · cases h2
          · exact E.ap j l b h1 h2
      · rcases hb.fset with z | z
        · cases z
        · exact .inl z
      · have hji : i ≠ j := fun z => by subst z; rw [h] at hj; cases hj; cases hmj
        exact ⟨rfl, mj, tj, by rw [List.getElem?_set_ne hji]; exact hj, hmj⟩
      · have hji : i ≠ j := fun z => by subst z; rw [h] at hj; cases hj
        refine ⟨rfl, by rw [List.getElem?_set_ne hji]; exact hj, ?_, fun _ _ => rfl⟩
        unfold fset
        rw [if_neg (Ne.symm hji)]
      · obtain ⟨j, hj⟩ := z
        unfold fset at hj
        split at hj
        · cases hj
        · rename_i hne
          exact hne (E.ap j i b hj hb)
    · cases e
end
noncomputable def frzSl (ρ : Rho) (i : Nat) : Option Rho := match ρ[i]? with
  | some (.own .free t) => (t.toD).map fun d => ρ.set i (.val d)
  | some (.val _) => some ρ
  | _ => none
theorem hu65 {k : Nat} {A : Around} (r : Room k A) : A.units + 65 < cLine := by have := r.un; omega
theorem relV_abs {u : Value} {v : V} (h : absV u = some v) : RelV v u := by
  cases u <;> simp only [absV] at h <;> first | (cases h; rfl) | (cases h; exact ⟨_, rfl⟩) | cases h
theorem tab_ok {K : Fg} {w : World} {p : Addr} : ∀ {tb : List (Str × PyData)} (vs : List V), Paired (fun (q : Str × PyData) v => KDct K w p q.1 v ∧ ∀ F, Dq K F v q.2) tb vs → ∀ z d, tb.lookup z = some d → ∃ v, KDct K w p z v ∧ ∀ F, Dq K F v d
  | _, _, .nil, z, d, h => by cases h
  | (k, d0) :: tb, _, .cons q r, z, d, h => by
    rw [List.lookup_cons] at h
    split at h
    · rename_i e
      cases h
      have : z = k := by simpa using e
      subst this
      exact ⟨_, q⟩
    · exact tab_ok _ r z d h
noncomputable def scrD (ns : List Int) : PyData := .dict (ns.map fun i => (.int i, .none))
noncomputable def noTb (H : Hp) : Hp := fun b => match H b with
  | some (.tbl _) => none
  | x => x
theorem noTb_sub {H : Hp} : Same (noTb H) H := fun b o e => by
  unfold noTb at e
  split at e
  · cases e
  · exact e
theorem noTb_of {H : Hp} {b : Addr} {o : HO} (h : H b = some o) (n : ∀ ps, o ≠ .tbl ps) : noTb H b = some o := by
  unfold noTb
  rw [h]
  split
  · rename_i ps e
    exact absurd (Option.some.inj e) (n ps)
  · rfl
theorem noTb_seq {K : Fg} {H : Hp} {a : Addr} {xs : List V} (h : SqL K H a xs) : SqL K (noTb H) a xs := by
  rcases h with (h | ⟨o, h⟩) | h
  · exact .inl (.inl (noTb_of h fun _ z => nomatch z))
  · exact .inl (.inr ⟨o, noTb_of h fun _ z => nomatch z⟩)
  · exact .inr h
noncomputable def Tb0 (K : Fg) (H : Hp) : Prop := ∀ c P, PySem.W.tabIn K "price_meant" = some (c, P) → H P = some (.tbl #[])
theorem tb0_ok {K : Fg} {H : Hp} (h : Tb0 K H) : TbOk K (noTb H) H := fun c P e => by
  have q := h c P e
  refine ⟨?_, #[], q, True.intro, fun pos cv z => ?_⟩
  · unfold noTb
    rw [q]
  · simp [codeAmong] at z
noncomputable def spLaw (K : Fg) : Sp := fun vs H Q _ => ∃ (a : Addr) (ns : List Int), vs = [.ref a] ∧ SqL K H a (ns.map V.int) ∧ ns.length ≤ 63 ∧ Tb0 K H ∧ ∀ H', Q (.bl true) H'
theorem law_imp {K : Fg} {Wx : WX0} {F : Fn} (hF : ∀ ns : List Int, ns.length ≤ 63 → ∃ outs, F [.val (scrD ns)] = some (.ret (.dat (.bool true)), outs)) {vs : List V} {H : Hp} {Q : VK} {E : XK} (h : spLaw K vs H Q E) : spV K Wx 1 F vs H Q E := by
  obtain ⟨a, ns, rfl, hS, hl, h0, k⟩ := h
  obtain ⟨outs, e⟩ := hF ns hl
  refine ⟨rfl, noTb H, [.val (scrD ns)], fun _ => [], _, outs, ⟨noTb_sub, rfl, fun i s hs => ?_, fun _ _ => rfl, fun _ => List.nodup_nil, (fun _ _ _ h => nomatch h), tb0_ok h0, fun j i p t h _ => by
    match j, h with
    | 0, h => cases h
    | j + 1, h => simp at h⟩, e, fun v A H' F' fp' st n => ?_⟩
  · cases i with
    | zero =>
      cases hs
      exact ⟨.ref a, rfl, .scr (noTb_seq hS)⟩
    | succ i => simp at hs
  · generalize hA : A = A' at n
    have q := n.ok
    cases q with
    | dat q =>
      cases q
      exact k H'
noncomputable def TbB (K : Fg) (base : Heap) (mg : Str → Option Value) : Prop := ∀ c P, PySem.W.tabIn K "price_meant" = some (c, P) → LamX.TabB base mg c P
noncomputable def csOf (K : Fg) : List (Addr × Addr) := match PySem.W.tabIn K "price_meant" with
  | some p => [p]
  | none => []
noncomputable def tabChk (q : Program) (K : Fg) : Bool := match PySem.W.tabIn K "price_meant" with
  | some p => (K.lookup p.2).isNone && ((recsOf q).find? fun e : DefRec => e.name == ("price_meant" : Str)).isSome
  | none => true
theorem mem_cs {K : Fg} {p : Addr × Addr} : p ∈ csOf K ↔ PySem.W.tabIn K "price_meant" = some p := by
  unfold csOf
  split
  · rename_i q e
    simp [eq_comm, e]
  · rename_i e
    simp [e]
theorem walk {l : PySem.W.OpenLaw} {q : Program} {loose : List Str} {XP : (Str → Option Value) → Heap → Prop} {YP : World → Heap → Prop} {d : DefRec} {K : Params → PySem.W.Frag} {k : Nat} (hn : l.most = some 63) (hdf : d.params.defaults = []) (hk : Room k callerA)
    (hY : ∀ (w : World) (h : Heap), YP w h → (K w.params).In h) (hT : ∀ w : World, tabChk q (K w.params) = true)
    (F : ∀ (w : World) (mg : Str → Option Value) (fa : Addr) (h : Heap), (K w.params).In h → h.Ns mainGlobals mg → mg d.name = some (.ref fa) →
      ∃ fd : FuncData, (∀ (s : Shared) (u : Value), BindsTo s fd ⟨[u], []⟩ [("script", u)]) ∧ ∀ base : Heap, (K w.params).In base → base.Ns mainGlobals mg → TbB (K w.params) base mg → FnOk l.prog w (K w.params) mg base CX0 k fa fd ["script"] (spLaw (K w.params))) :
    PySem.W.WalkO q loose XP YP l.row.toRowW d [] (fun f vs => PySem.call f vs) := by
  refine Att.attach_callB hn hdf fun w s₀ s₁ mg mb fa o pm cd doc a vs ns G Y ho hd hcd hmg hobj hints hlen hbits hg => ?_
  have KX := hY w _ Y
  obtain ⟨fd, hb, hF⟩ := F w mg fa _ KX G.T.g hmg
  have tk : ∀ p ∈ csOf (K w.params), (K w.params).lookup p.2 = none ∧ PySem.W.CodeHd s₁.heap p.1 p.2 ∧ s₁.heap.get? p.2 = some { cls := .none, data := .fields #[] } := fun p hp => by
    have e := mem_cs.mp hp
    have c := hT w
    unfold tabChk at c
    rw [e] at c
    simp only [Bool.and_eq_true, Option.isNone_iff_eq_none] at c
    obtain ⟨dd, hd⟩ := Option.isSome_iff_exists.mp c.2
    have z := PySem.W.tab_of (x := "price_meant") (c := p.1) (P := p.2) G.T KX hd e
    exact ⟨c.1, z.1, z.2⟩
  refine LamX.law_callTs (cs := csOf (K w.params)) KX G.T.g G.T.b G.T.builtins G.T.nolimit hg (fun p hp => (tk p hp).2.2) (fun p hp => (tk p hp).1) (fun p hp => (tk p hp).2.1) G.T.bmain hobj hints (Nat.le_trans hlen (by decide)) hk
    (fun base h1 h2 h3 => hF base h1 h2 fun c P e => h3 (c, P) (mem_cs.mpr e)) hb (fun H hH hS => ⟨a, ns, rfl, hS, hlen, fun c P e => hH (c, P) (mem_cs.mpr e), fun _ => rfl⟩) fun _ _ _ z => z
noncomputable def KTupV (K : Fg) (t : Addr) (ds : List PyData) : Prop := ∃ vs, (∃ (o : Obj) (its : Array Value) (n : Nat), K.lookup t = some o ∧ o.cls = .type "tuple" ∧ o.data = .seq its n ∧ its.size ≤ sizeLine ∧ Vals vs its.toList) ∧ ∀ F : Hp, DqAll K F vs ds
theorem KTupV.k {K : Fg} {t : Addr} {ds : List PyData} (h : KTupV K t ds) : KTup K t ds := by
  obtain ⟨vs, h1, h2⟩ := h
  exact ⟨vs, fun F => .inr h1, h2⟩
end VL

end

section
set_option Elab.async false
set_option linter.all false
set_option maxRecDepth 100000
namespace VL
open PySem PySem.Spec PyProof.Rows L2 HT
section
variable {prog : Program} {w : World} {A : Around} {E : Value → Shared → Prop} {s : Shared}
end
section
variable {X : Cx} {T : List Nat} {W : WV} {a : Expr} {fa : M Rv} {pos p2 p3 p4 : Pos}
noncomputable def rev1 (x : Rv) : M Rv := fun ρ => match x with
  | .d (.tuple ds) => some (.ok (.d (.tuple ds.reverse)) ρ)
  | _ => none
noncomputable def cRev (f : M Rv) : M Rv := bnd f rev1
end
end VL

end

section
set_option Elab.async false
set_option linter.all false
set_option maxRecDepth 100000
namespace VL
open PySem PySem.Spec PyProof.Rows L2
section
variable {X : Cx} {T T1 T2 : List Nat} {W : WV} {K : Fg}
noncomputable def cCnt1 (ds : List PyData) (y : Rv) : M Rv := fun ρ => match y with
  | .d e => if flatD e && ds.all flatD then some (.ok (.d (.int (ds.countP (fun z => PyData.eqv z e) : Nat))) ρ) else none
  | .o _ => none
noncomputable def cCnt (fo fe : M Rv) : M Rv := bnd fo fun x => match x with
  | .d (.list ds) => bnd fe (cCnt1 ds)
  | _ => fun _ => none
variable {o e : Expr} {fo fe : M Rv} {apos cpos : Pos}
noncomputable def intsD : List PyData → Option (List Int)
  | [] => some []
  | .int i :: ds => (intsD ds).map (i :: ·)
  | _ :: _ => none
noncomputable def sumD : List PyData → Option PyData
  | [.list ds] => (intsD ds).map fun ns => .int ns.sum
  | _ => none
noncomputable def maxI : Int → List Int → Int
  | m, [] => m
  | m, i :: is => maxI (if i > m then i else m) is
noncomputable def minI : Int → List Int → Int
  | m, [] => m
  | m, i :: is => minI (if i < m then i else m) is
noncomputable def maxD : List PyData → Option PyData
  | [.list ds] => (match intsD ds with
    | some (n :: ns) => some (.int (maxI n ns))
    | _ => none)
  | _ => none
end
end VL

end

section
set_option Elab.async false
set_option linter.all false
set_option maxRecDepth 100000
namespace VL
open PySem PySem.Spec PyProof.Rows L2
noncomputable def keyD : PyData → Option Key
  | .int i => some (.inl i)
  | .str z => some (.inr z)
  | _ => none
noncomputable def keysD : List PyData → Option (List Key)
  | [] => some []
  | d :: ds => match keyD d, keysD ds with
    | some k, some ks => some (k :: ks)
    | _, _ => none
noncomputable def keyT : PyData → Option (List Key)
  | .tuple ds => if kOk ds then none else keysD ds
  | _ => none
section
variable {K : Fg} {F : Hp}
theorem keyD_ok {v : V} {d : PyData} {k : Key} (h : Dq K F v d) (e : keyD d = some k) : v = kV k := by
  cases h <;> simp only [keyD] at e <;> first | (cases e; rfl) | cases e
theorem keysD_ok : ∀ {vs : List V} {ds : List PyData} {ks : List Key}, DqAll K F vs ds → keysD ds = some ks → vs = ks.map kV
  | _, _, _, .nil, e => by simp only [keysD] at e; cases e; rfl
  | _, _, _, .cons h t, e => by
    simp only [keysD] at e
    split at e
    · rename_i k ks e1 e2
      cases e
      rw [keyD_ok h e1, keysD_ok t e2]
      rfl
    · cases e
theorem keyT_ok {v : V} {d : PyData} {k : List Key} (h : Dq K F v d) (e : keyT d = some k) : ∃ b, v = .ref b ∧ F b = some (.tup (k.map kV)) := by
  cases h with
  | tups hs ha =>
    simp only [keyT] at e
    split at e
    · cases e
    · rename_i hk
      rcases hs with hs | ⟨hk', _⟩
      · exact ⟨_, rfl, by rw [← keysD_ok ha e]; exact hs⟩
      · exact absurd hk' hk
  | _ => simp [keyT] at e
end
noncomputable def getK {κ : Type} [DecidableEq κ] (kvs : List (κ × Tr)) (k : κ) : Option Tr := (kvs.find? fun kv => decide (kv.1 = k)).map (·.2)
noncomputable def lookP {κ : Type} [DecidableEq κ] (kvs : List (κ × PyData)) (k : κ) : Option PyData := (kvs.find? fun kv => decide (kv.1 = k)).map (·.2)
noncomputable def dictAt (t : Tr) (d : PyData) : Option (Option PyData) := match t with
  | .dk kvs => (match keyD d with
    | some k => (match getK kvs k with
      | none => some none
      | some (.dat e) => some (some e)
      | some _ => none)
    | none => none)
  | .dt kvs => (match keyT d with
    | some k => (match getK kvs k with
      | none => some none
      | some (.dat e) => some (some e)
      | some _ => none)
    | none => none)
  | .fk kvs => (match keyD d with
    | some k => some (lookP kvs k)
    | none => none)
  | .ft kvs => (match keyT d with
    | some k => some (lookP kvs k)
    | none => none)
  | .sd kvs => (match keyD d with
    | some k => some (lookP kvs k)
    | none => none)
  | _ => none
theorem prs_get {κ : Type} [DecidableEq κ] {K : Fg} {F : Hp} {k : κ} : ∀ {vs : List (κ × V)} {ds : List (κ × PyData)}, vs.map (·.1) = ds.map (·.1) → DqAll K F (vs.map (·.2)) (ds.map (·.2)) →
    (lookP ds k = none → valV vs k = none) ∧ ∀ e, lookP ds k = some e → ∃ v, valV vs k = some v ∧ Dq K F v e
  | [], [], _, _ => ⟨fun _ => rfl, fun e h => by simp [lookP] at h⟩
  | [], _ :: _, h, _ => by simp at h
  | _ :: _, [], h, _ => by simp at h
  | (k1, v1) :: vs, (k2, t2) :: ts, h, q => by
    simp only [List.map_cons, List.cons.injEq] at h
    obtain ⟨h1, h2⟩ := h
    subst h1
    simp only [List.map_cons] at q
    cases q with
    | cons q1 q2 =>
      obtain ⟨a1, a2⟩ := prs_get (k := k) h2 q2
      unfold lookP valV at *
      by_cases hk : k1 = k
      · simp only [List.find?_cons, hk, decide_true, Option.map_some]
        refine ⟨fun h => (by cases h), fun e h => ?_⟩
        cases (Option.some.inj h)
        exact ⟨_, rfl, q1⟩
      · simp only [List.find?_cons, hk, decide_false]
        exact ⟨a1, a2⟩
theorem getK_ok {κ : Type} [DecidableEq κ] {K : Fg} {F H : Hp} {k : κ} : ∀ {vs : List (κ × V)} {ts : List (κ × Tr)} {A : List Addr}, vs.map (·.1) = ts.map (·.1) → TrsOk K F H (vs.map (·.2)) (ts.map (·.2)) A →
    (getK ts k = none → valV vs k = none) ∧ ∀ e, getK ts k = some (.dat e) → ∃ v, valV vs k = some v ∧ Dq K F v e
  | [], [], _, _, _ => ⟨fun _ => rfl, fun e h => by simp [getK] at h⟩
  | [], _ :: _, _, h, _ => by simp at h
  | _ :: _, [], _, h, _ => by simp at h
  | (k1, v1) :: vs, (k2, t2) :: ts, A, h, q => by
    simp only [List.map_cons, List.cons.injEq] at h
    obtain ⟨h1, h2⟩ := h
    subst h1
    simp only [List.map_cons] at q
    cases q with
    | cons q1 q2 =>
      obtain ⟨a1, a2⟩ := getK_ok (k := k) h2 q2
      unfold getK valV at *
      by_cases hk : k1 = k
      · simp only [List.find?_cons, hk, decide_true, Option.map_some]
        refine ⟨fun h => (by cases h), fun e h => ?_⟩
        cases (Option.some.inj h)
        cases q1 with
        | dat q1 => exact ⟨_, rfl, q1⟩
      · simp only [List.find?_cons, hk, decide_false]
        exact ⟨a1, a2⟩
theorem dict_get {K : Fg} {F H : Hp} {v w : V} {t : Tr} {B : List Addr} {d : PyData} {r : Option PyData} (s : Same F H) (q : TrOk K F H v t B) (hk : Dq K F w d) (e : dictAt t d = some r) :
    ∃ a o, v = .ref a ∧ DGet H a w o ∧ (r = none → o = none) ∧ ∀ z, r = some z → ∃ x, o = some x ∧ Dq K F x z := by
  unfold dictAt at e
  split at e
  · split at e
    · rename_i kvs k ek
      have ew := keyD_ok hk ek
      subst ew
      cases q with
      | dk h1 h2 h3 h4 =>
        obtain ⟨g1, g2⟩ := getK_ok (k := k) h3 h4
        refine ⟨_, _, rfl, DGet.k h1, ?_⟩
        split at e
        · rename_i hn
          cases e
          exact ⟨fun _ => g1 hn, (fun z hz => nomatch hz)⟩
        · rename_i z hz
          cases e
          refine ⟨(fun hz => nomatch hz), fun z' hz' => ?_⟩
          cases hz'
          exact g2 _ hz
        · cases e
    · cases e
  · split at e
    · rename_i kvs k ek
      obtain ⟨b, rfl, hb⟩ := keyT_ok hk ek
      cases q with
      | dt h1 h2 h3 h4 =>
        obtain ⟨g1, g2⟩ := getK_ok (k := k) h3 h4
        refine ⟨_, _, rfl, DGet.t h1 (s _ _ hb), ?_⟩
        split at e
        · rename_i hn
          cases e
          exact ⟨fun _ => g1 hn, (fun z hz => nomatch hz)⟩
        · rename_i z hz
          cases e
          refine ⟨(fun hz => nomatch hz), fun z' hz' => ?_⟩
          cases hz'
          exact g2 _ hz
        · cases e
    · cases e
  · split at e
    · rename_i kvs k ek
      have ew := keyD_ok hk ek
      subst ew
      cases e
      cases q with
      | @fk a o vs _ h1 h2 h3 =>
        obtain ⟨g1, g2⟩ := prs_get (k := k) h3.1 h3.2
        exact ⟨_, _, rfl, .inl ⟨vs, k, .inr ⟨o, h1⟩, rfl, rfl⟩, g1, g2⟩
    · cases e
  · split at e
    · rename_i kvs k ek
      obtain ⟨b, rfl, hb⟩ := keyT_ok hk ek
      cases e
      cases q with
      | @ft a o vs _ h1 h2 h3 =>
        obtain ⟨g1, g2⟩ := prs_get (k := k) h3.1 h3.2
        exact ⟨_, _, rfl, .inr ⟨vs, k, b, .inr ⟨o, h1⟩, rfl, s _ _ hb, rfl⟩, g1, g2⟩
    · cases e
  · split at e
    · rename_i kvs k ek
      have ew := keyD_ok hk ek
      subst ew
      cases e
      cases q with
      | @sd a o vs _ h1 h3 =>
        obtain ⟨g1, g2⟩ := prs_get (k := k) h3.1 h3.2
        exact ⟨_, _, rfl, .inl ⟨vs, k, .inr ⟨o, s _ _ h1⟩, rfl, rfl⟩, g1, g2⟩
    · cases e
  · cases e
section
variable {X : Cx} {T T1 T2 T3 : List Nat} {W : WV} {fk fx : M Rv} {fp1 : M (Nat × List Nat)} {i o e : Expr} {pos : Pos}
noncomputable def dIn1 (neg : Bool) (y : Rv) (r : Nat × List Nat) : M Bool := fun ρ => match y, treeAt ρ r with
  | .d d, some t => (match dictAt t d with
    | some z => some (.ok (if neg then !z.isSome else z.isSome) ρ)
    | none => none)
  | _, _ => none
noncomputable def cDIn (neg : Bool) (fk : M Rv) (f : M (Nat × List Nat)) : M Bool := bnd fk fun y => bnd f (dIn1 neg y)
theorem vt_din (hu : X.A.units + 1 < cLine) (hi : VE X T1 W i fk) (ho : VP X T2 W o fp1) (hb : behindInMarks .In o = false := by rfl) : VT X (T1 ++ T2) W (.Compare i [.In] [o] pos) (cDIn false fk fp1) :=
  pt_imp (pt_cmp (pc_din hu hi ho) hb) fun σ H Q ⟨F, ρ, fp, ou, E, q, P⟩ => by
    refine tv_bnd E q P (fun j hj => List.mem_append_left _ hj) fun y ρ1 v H1 F1 fp1 s1 r1 e1 P1 => ?_
    refine tv_bnd s1.env e1 P1 (fun j hj => List.mem_append_right _ hj) fun r ρ2 w H2 F2 fp2 s2 r2 e2 P2 => ?_
    unfold dIn1 at e2
    split at e2
    · rename_i d t ht
      split at e2
      · rename_i z hz
        cases ok_inj e2
        obtain ⟨B, qB, _⟩ := place_get s2.env r2 ht
        have hk : Dq X.K F2 v d := RvOk.step s2 (show RvOk X.K F1 σ ρ1 v (.d d) from r1)
        obtain ⟨a, oo, rfl, g, g1, g2⟩ := dict_get s2.env.sub qB hk hz
        have eo : oo.isSome = z.isSome := by
          cases z with
          | none => rw [g1 rfl]; rfl
          | some z => obtain ⟨x, hx, _⟩ := g2 z rfl; rw [hx]; rfl
        refine ⟨a, oo, rfl, g, _, rfl, ?_⟩
        rw [eo]
        exact P2 _ H2 F2 fp2 (.refl s2.env) rfl
      · cases e2
    · cases e2
theorem vt_dnotin (hu : X.A.units + 1 < cLine) (hi : VE X T1 W i fk) (ho : VP X T2 W o fp1) (hb : behindInMarks .NotIn o = false := by rfl) : VT X (T1 ++ T2) W (.Compare i [.NotIn] [o] pos) (cDIn true fk fp1) :=
  pt_imp (pt_cmp (pc_dnotin hu hi ho) hb) fun σ H Q ⟨F, ρ, fp, ou, E, q, P⟩ => by
    refine tv_bnd E q P (fun j hj => List.mem_append_left _ hj) fun y ρ1 v H1 F1 fp1 s1 r1 e1 P1 => ?_
    refine tv_bnd s1.env e1 P1 (fun j hj => List.mem_append_right _ hj) fun r ρ2 w H2 F2 fp2 s2 r2 e2 P2 => ?_
    unfold dIn1 at e2
    split at e2
    · rename_i d t ht
      split at e2
      · rename_i z hz
        cases ok_inj e2
        obtain ⟨B, qB, _⟩ := place_get s2.env r2 ht
        have hk : Dq X.K F2 v d := RvOk.step s2 (show RvOk X.K F1 σ ρ1 v (.d d) from r1)
        obtain ⟨a, oo, rfl, g, g1, g2⟩ := dict_get s2.env.sub qB hk hz
        have eo : oo.isSome = z.isSome := by
          cases z with
          | none => rw [g1 rfl]; rfl
          | some z => obtain ⟨x, hx, _⟩ := g2 z rfl; rw [hx]; rfl
        refine ⟨a, oo, rfl, g, _, rfl, ?_⟩
        rw [eo]
        exact P2 _ H2 F2 fp2 (.refl s2.env) rfl
      · cases e2
    · cases e2
noncomputable def dGet1 (T2 : List Nat) (r : Nat × List Nat) (y : Rv) : M Rv := fun ρ => if T2.contains r.1 then none else match y, treeAt ρ r with
  | .d d, some t => (match dictAt t d with
    | some (some z) => some (.ok (.d z) ρ)
    | _ => none)
  | _, _ => none
noncomputable def cDGet (T2 : List Nat) (f : M (Nat × List Nat)) (fk : M Rv) : M Rv := bnd f fun r => bnd fk (dGet1 T2 r)
theorem not_in {T : List Nat} {j : Nat} (h : ¬ T.contains j = true) : j ∉ T := fun z => h (List.contains_iff_mem.mpr z)
theorem ve_dget (hu : X.A.units + 1 < cLine) (ho : VP X T1 W o fp1) (hi : VE X T2 W i fk) (hT : T2 = T3 := by rfl) (hs : NoSl i := by intro _ _; rfl) : VE X (T1 ++ T2) W (.Subscript o i pos) (cDGet T3 fp1 fk) :=
  pe_imp (pe_dget hu ho hi hs) fun σ H Q ⟨F, ρ, fp, ou, E, q, P⟩ => by
    subst hT
    refine tv_bnd E q P (fun j hj => List.mem_append_left _ hj) fun r ρ1 v H1 F1 fp1 s1 r1 e1 P1 => ?_
    refine tv_bnd s1.env e1 P1 (fun j hj => List.mem_append_right _ hj) fun y ρ2 w H2 F2 fp2 s2 r2 e2 P2 => ?_
    unfold dGet1 at e2
    split at e2
    · cases e2
    · rename_i hc
      have pl := place_step s1.env s2 (not_in hc) r1
      split at e2
      · rename_i d t ht
        split at e2
        · rename_i z hz
          cases ok_inj e2
          obtain ⟨B, qB, _⟩ := place_get s2.env pl ht
          obtain ⟨a, oo, rfl, g, g1, g2⟩ := dict_get s2.env.sub qB (show Dq X.K F2 w d from r2) hz
          obtain ⟨x, rfl, hx⟩ := g2 z rfl
          exact ⟨a, x, rfl, g, P2 _ H2 F2 fp2 (.refl s2.env) hx⟩
        · cases e2
      · cases e2
noncomputable def isDk : Option Tr → Bool
  | some (.dk _) => true
  | some (.dt _) => true
  | _ => false
noncomputable def dGet2 (T2 : List Nat) (r : Nat × List Nat) (y x : Rv) : M Rv := fun ρ => if T2.contains r.1 then none else match y, x, treeAt ρ r with
  | .d d, .d u, some t => (match dictAt t d with
    | some z => some (.ok (.d (z.getD u)) ρ)
    | none => none)
  | _, _, _ => none
noncomputable def cDGet2 (T2 : List Nat) (f : M (Nat × List Nat)) (fk fx : M Rv) : M Rv := bnd f fun r => fun ρ => if isDk (treeAt ρ r) then (bnd fk fun y => bnd fx (dGet2 T2 r y)) ρ else none
noncomputable def nNew (t : Tr) : M Tr := ret t
theorem new_dt {K : Fg} {T : List Nat} {F H : Hp} {σ : Sg} {ρ : Rho} {fp : FP} {p : Addr} (E : EnvOk K F H σ ρ fp) (np : H p = none) :
    EStep K T F H σ ρ fp F (upd H p (.dT [])) ρ fp ∧ NewOk K H fp F (upd H p (.dT [])) fp (.ref p) (.dt []) [p] := by
  refine ⟨(Grow.lay (.dT []) E.sub np).step E, .dt upd_same (E.sub.free np) rfl .nil, by simp, fun b hb => ?_, fun b hb ho => ?_⟩
  · rw [List.mem_singleton.mp hb]; exact .inl np
  · rw [List.mem_singleton.mp hb] at ho
    exact (E.there ho).1 np
theorem vn_dt : VN X T W (.Dict [] [] pos) (nNew (.dt [])) := pe_imp pe_dnewT fun σ H Q ⟨F, ρ, fp, o, E, e, P⟩ => by
  cases ok_inj e
  intro p np
  have z := new_dt (T := T) E np
  exact P _ _ _ fp z.1 ⟨_, z.2⟩
end
section
variable {κ : Type} [DecidableEq κ]
noncomputable def dats : List (κ × Tr) → Option (List (κ × PyData))
  | [] => some []
  | (k, .dat d) :: ts => (dats ts).map ((k, d) :: ·)
  | _ :: _ => none
noncomputable def toT (ds : List (κ × PyData)) : List (κ × Tr) := ds.map fun p => (p.1, .dat p.2)
noncomputable def putP (ds : List (κ × PyData)) (k : κ) (d : PyData) : List (κ × PyData) :=
  if (ds.any fun kv => decide (kv.1 = k)) = true then ds.map (fun kv => if kv.1 = k then (kv.1, d) else kv) else ds ++ [(k, d)]
theorem dats_ok {K : Fg} {F H : Hp} : ∀ {vs : List (κ × V)} {ts : List (κ × Tr)} {ds : List (κ × PyData)} {A : List Addr}, vs.map (·.1) = ts.map (·.1) → TrsOk K F H (vs.map (·.2)) (ts.map (·.2)) A → dats ts = some ds → A = [] ∧ Prs K F vs ds
  | [], [], ds, _, _, q, e => by
    simp only [dats] at e
    cases e
    cases q
    exact ⟨rfl, rfl, .nil⟩
  | [], _ :: _, _, _, h, _, _ => by simp at h
  | _ :: _, [], _, _, h, _, _ => by simp at h
  | (k1, v1) :: vs, (k2, t2) :: ts, ds, A, h, q, e => by
    simp only [List.map_cons, List.cons.injEq] at h
    obtain ⟨h1, h2⟩ := h
    subst h1
    cases t2 with
    | dat d =>
      simp only [dats] at e
      obtain ⟨es, e1, rfl⟩ := map_some e
      simp only [List.map_cons] at q
      cases q with
      | cons q1 q2 =>
        cases q1 with
        | dat q1 =>
          obtain ⟨a1, a2, a3⟩ := dats_ok h2 q2 e1
          subst a1
          exact ⟨rfl, by simp [a2], .cons q1 a3⟩
    | _ => simp [dats] at e
theorem prs_put {K : Fg} {F : Hp} {k : κ} {v : V} {d : PyData} (hv : Dq K F v d) {vs : List (κ × V)} {ds : List (κ × PyData)} (h : Prs K F vs ds) : Prs K F (putK vs k v) (putP ds k d) := by
  obtain ⟨h1, h2⟩ := h
  have ha : ∀ {vs : List (κ × V)} {ds : List (κ × PyData)}, vs.map (·.1) = ds.map (·.1) → (vs.any fun kv => decide (kv.1 = k)) = ds.any fun kv => decide (kv.1 = k) := by
    intro vs
    induction vs with
    | nil => intro ds e; cases ds with
      | nil => rfl
      | cons _ _ => simp at e
    | cons x vs ih => intro ds e; cases ds with
      | nil => simp at e
      | cons y ds =>
        simp only [List.map_cons, List.cons.injEq] at e
        simp only [List.any_cons, e.1, ih e.2]
  unfold putK putP
  rw [ha h1]
  split
  · have hm : ∀ {vs : List (κ × V)} {ds : List (κ × PyData)}, vs.map (·.1) = ds.map (·.1) → DqAll K F (vs.map (·.2)) (ds.map (·.2)) → Prs K F (vs.map fun kv => if kv.1 = k then (kv.1, v) else kv) (ds.map fun kv => if kv.1 = k then (kv.1, d) else kv) := by
      intro vs
      induction vs with
      | nil => intro ds e q; cases ds with
        | nil => exact ⟨rfl, .nil⟩
        | cons _ _ => simp at e
      | cons x vs ih => intro ds e q; cases ds with
        | nil => simp at e
        | cons y ds =>
          simp only [List.map_cons, List.cons.injEq] at e q
          cases q with
          | cons q1 q2 =>
            obtain ⟨a1, a2⟩ := ih e.2 q2
            by_cases hk : y.1 = k
            · refine ⟨?_, ?_⟩
              · simp only [List.map_cons, e.1, hk, if_true, List.cons.injEq, true_and]; exact a1
              · simp only [List.map_cons, e.1, hk, if_true]; exact .cons hv a2
            · refine ⟨?_, ?_⟩
              · simp only [List.map_cons, e.1, hk, if_false, List.cons.injEq, true_and]; exact a1
              · simp only [List.map_cons, e.1, hk, if_false]; exact .cons q1 a2
    exact hm h1 h2
  · refine ⟨by simp [h1], ?_⟩
    simp only [List.map_append, List.map_cons, List.map_nil]
    exact dqAll_app h2 (.cons hv .nil)
end
theorem toT_snd {κ : Type} {ds : List (κ × PyData)} : (toT ds).map (·.2) = (ds.map (·.2)).map .dat := by simp [toT]
theorem toT_fst {κ : Type} {ds : List (κ × PyData)} : (toT ds).map (·.1) = ds.map (·.1) := by simp [toT]
noncomputable def dPut1 (T2 : List Nat) (d : PyData) (r : Nat × List Nat) (y : Rv) : MS := fun ρ => if T2.contains r.1 || !modeOk ρ r.1 then none else match y, treeAt ρ r with
  | .d kd, some (.dk kvs) => (match keyD kd, dats kvs with
    | some k, some ds => if small (ds.length + 1) then some (.nx (putAt ρ r (.dk (toT (putP ds k d))))) else none
    | _, _ => none)
  | .d kd, some (.dt kvs) => (match keyT kd, dats kvs with
    | some k, some ds => if small (ds.length + 1) then some (.nx (putAt ρ r (.dt (toT (putP ds k d))))) else none
    | _, _ => none)
  | _, _ => none
noncomputable def sDPut (T2 : List Nat) (fe : M Rv) (f : M (Nat × List Nat)) (fk : M Rv) : MS := sE fe fun x => match x with
  | .d d => sE f fun r => sE fk (dPut1 T2 d r)
  | .o _ => fun _ => none
section
variable {X : Cx} {T1 T2 T3 T4 : List Nat} {W : WV} {fe fk : M Rv} {fp1 : M (Nat × List Nat)} {i o e : Expr} {pos pos' : Pos}
theorem vs_dput (hu : X.A.units + 1 < cLine) (he : VE X T1 W e fe) (ho : VP X T2 W o fp1) (hi : VE X T3 W i fk) (hT : T3 = T4 := by rfl) (hs : swapsWith e (some (.Subscript o i pos')) pos.line X.env = pure false := by rfl) :
    VS X W (.Assign [.Subscript o i pos'] e pos) (sDPut T4 fe fp1 fk) :=
  ps_imp (ps_dput hu ho hi he hs) fun D σ H ⟨F, ρ, fp, ou, E, q, P⟩ => by
    subst hT
    refine tv_st E q P fun x ρ1 v H1 F1 fp1 s1 r1 e1 P1 => ?_
    cases x with
    | o _ => cases e1
    | d d =>
      refine tv_st (T := T2) s1.env e1 P1 fun r ρ2 w H2 F2 fp2 s2 r2 e2 P2 => ?_
      refine tv_st (T := T3) s2.env e2 P2 fun y ρ3 z H3 F3 fp3 s3 r3 e3 _ => ?_
      unfold dPut1 at e3
      split at e3
      · cases e3
      · rename_i hc
        obtain ⟨hT, hc'⟩ := touch_of hc
        have pl := place_step s2.env s3 hT r2
        have hd3 : Dq X.K F3 v d := dq_mono (s2.st.fr.trans s3.st.fr) _ _ r1
        split at e3
        · rename_i kd kvs hts
          split at e3
          · rename_i k ds hk hds
            split at e3
            · rename_i hsm
              cases (Option.some.inj e3)
              have ez := keyD_ok (show Dq X.K F3 z kd from r3) hk
              subst ez
              obtain ⟨B, qB, hB⟩ := place_get s3.env pl hts
              obtain ⟨u, m, t, t', h1, h2, h3, h4⟩ := pl
              have ht' : t.at r.2 = some (.dk kvs) := by
                unfold treeAt at hts
                rw [h2] at hts
                exact hts
              cases qB with
              | @dk a vs _ B0 f1 f2 f3 f4 =>
                obtain ⟨_, pr⟩ := dats_ok f3 f4 hds
                have pp := prs_put (k := k) hd3 pr
                obtain ⟨fp', st, _⟩ := mut_step (A := []) (o := .dK (putK vs k v)) (t'' := .dk (toT (putP ds k d))) s3 h2 (mode_of hc' h2) h1 ht' h4 (fun b hb => nomatch hb) List.nodup_nil (fun b hb => nomatch hb) fun B1 q1 nB1 _ => by
                  cases q1 with
                  | @dk a _ _ B2 g1 g2 g3 g4 =>
                    refine ⟨List.mem_cons_self, [a], .dk upd_same g2 (by rw [toT_fst]; exact pp.1) ?_, by simp, fun b hb => .inl ?_⟩
                    · rw [toT_snd]
                      exact trs_dat pp.2
                    · rw [List.mem_singleton.mp hb]; exact List.mem_cons_self
                have e : putAt ρ3 r (.dk (toT (putP ds k d))) = ρ3.set r.1 (.own m (t.put r.2 (.dk (toT (putP ds k d))))) := by
                  unfold putAt
                  rw [h2]
                have hl : vs.length = ds.length := by
                  have := congrArg List.length pr.1
                  simpa using this
                refine ⟨a, _, rfl, DPut.k f1 (by have := small_iff.mp hsm; omega), P2 σ _ F3 fp' ?_⟩
                rw [e]
                exact st.st
            · cases e3
          · cases e3
        · rename_i kd kvs hts
          split at e3
          · rename_i k ds hk hds
            split at e3
            · rename_i hsm
              cases (Option.some.inj e3)
              obtain ⟨b, rfl, hbk⟩ := keyT_ok (show Dq X.K F3 z kd from r3) hk
              obtain ⟨B, qB, hB⟩ := place_get s3.env pl hts
              obtain ⟨u, m, t, t', h1, h2, h3, h4⟩ := pl
              have ht' : t.at r.2 = some (.dt kvs) := by
                unfold treeAt at hts
                rw [h2] at hts
                exact hts
              cases qB with
              | @dt a vs _ B0 f1 f2 f3 f4 =>
                obtain ⟨_, pr⟩ := dats_ok f3 f4 hds
                have pp := prs_put (k := k) hd3 pr
                obtain ⟨fp', st, _⟩ := mut_step (A := []) (o := .dT (putK vs k v)) (t'' := .dt (toT (putP ds k d))) s3 h2 (mode_of hc' h2) h1 ht' h4 (fun b hb => nomatch hb) List.nodup_nil (fun b hb => nomatch hb) fun B1 q1 nB1 _ => by
                  cases q1 with
                  | @dt a _ _ B2 g1 g2 g3 g4 =>
                    refine ⟨List.mem_cons_self, [a], .dt upd_same g2 (by rw [toT_fst]; exact pp.1) ?_, by simp, fun b hb => .inl ?_⟩
                    · rw [toT_snd]
                      exact trs_dat pp.2
                    · rw [List.mem_singleton.mp hb]; exact List.mem_cons_self
                have e : putAt ρ3 r (.dt (toT (putP ds k d))) = ρ3.set r.1 (.own m (t.put r.2 (.dt (toT (putP ds k d))))) := by
                  unfold putAt
                  rw [h2]
                have hl : vs.length = ds.length := by
                  have := congrArg List.length pr.1
                  simpa using this
                refine ⟨a, _, rfl, DPut.t f1 (s3.env.sub _ _ hbk) (by have := small_iff.mp hsm; omega), P2 σ _ F3 fp' ?_⟩
                rw [e]
                exact st.st
            · cases e3
          · cases e3
        · cases e3
end
theorem hu1 {n : Nat} (h : n + 65 < cLine) : n + 1 < cLine := by omega
end VL

end

section
set_option Elab.async false
set_option linter.all false
set_option maxRecDepth 100000
namespace VL
open PySem PySem.Spec PyProof.Rows L2 PySem.W
section
variable {X : Cx} {K : Fg}
end
end VL

end

section
set_option Elab.async false
set_option linter.all false
set_option maxRecDepth 100000
namespace VL
open PySem PySem.Spec PyProof.Rows L2
noncomputable def ZSt (z TI TO i1 i2 l1 l2 : Addr) (xs ys : Array Value) (S : Addr) (i : Nat) (h : Heap) : Prop :=
  IsPair h TI (.ref i1) (.ref i2) ∧ h.IsListIter i1 l1 i ∧ h.IsListIter i2 l2 i ∧ h.IsList l1 xs ∧ h.IsList l2 ys ∧
    ((IsZip h z TI TO .none ∧ ∃ a b, IsPair h TO a b) ∨ ∃ T f oT, IsZipHeld h z TI TO T f ∧ h.get? T = some oT ∧ T ≠ z ∧ T ≠ i1 ∧ T ≠ i2 ∧ T ≠ S)
structure ZAp (z TI TO i1 i2 l1 l2 S : Addr) : Prop where
  sz : S ≠ z
  sTI : S ≠ TI
  sTO : S ≠ TO
  s1 : S ≠ i1
  s2 : S ≠ i2
  sl1 : S ≠ l1
  sl2 : S ≠ l2
theorem ZSt.frame {z TI TO i1 i2 l1 l2 S : Addr} {xs ys : Array Value} {i : Nat} {h h' : Heap} (D : ZAp z TI TO i1 i2 l1 l2 S) (st : ZSt z TI TO i1 i2 l1 l2 xs ys S i h) (k : ∀ b o, b ≠ S → h.get? b = some o → h'.get? b = some o) : ZSt z TI TO i1 i2 l1 l2 xs ys S i h' := by
  obtain ⟨a1, a2, a3, a4, a5, a6⟩ := st
  refine ⟨k _ _ D.sTI.symm a1, a2.at fun o e => k _ o D.s1.symm e, a3.at fun o e => k _ o D.s2.symm e, a4.at fun o e => k _ o D.sl1.symm e, a5.at fun o e => k _ o D.sl2.symm e, ?_⟩
  rcases a6 with ⟨hz, a, b, hTO⟩ | ⟨T, f, oT, hz, hT, r1, r2, r3, r4⟩
  · exact .inl ⟨k _ _ D.sz.symm hz, a, b, k _ _ D.sTO.symm hTO⟩
  · exact .inr ⟨T, f, oT, k _ _ D.sz.symm hz, k _ _ r4 hT, r1, r2, r3, r4⟩
section
variable {prog : Program} {w : World} {A : Around} {R : Result → Shared → Prop} {z TI TO i1 i2 l1 l2 S : Addr} {xs ys : Array Value}
variable {s : Shared} {E : Value → Shared → Prop}
end
section
variable {X : Cx}
end
end VL

end

section
set_option Elab.async false
set_option linter.all false
set_option maxRecDepth 100000
namespace VL
open PySem PySem.Spec PyProof.Rows L2
section
variable {X : Cx} {T T1 T2 T3 T4 T5 : List Nat} {W : WV} {K : Fg}
noncomputable def repL (ds : List PyData) (k : Int) : List PyData := (List.replicate k.toNat ds).flatten
noncomputable def repOk (ds : List PyData) (k : Int) : Bool := decide (-(2 ^ 63) ≤ k ∧ k < 2 ^ 63) && small (ds.length * k.toNat)
noncomputable def repD : PyData → PyData → Option PyData
  | .list ds, .int k => if repOk ds k then some (.list (repL ds k)) else none
  | _, _ => none
variable {fa fb : M Rv} {a b : Expr} {pos : Pos}
noncomputable def rep1 (x y : Rv) : M Tr := fun ρ => match derS ρ x, derS ρ y with
  | some (.list ds), some (.int k) => if repOk ds k then some (.ok (.lst ((repL ds k).map .dat)) ρ) else none
  | _, _ => none
noncomputable def nRep (fa fb : M Rv) : M Tr := bnd fa fun x => bnd fb fun y => rep1 x y
variable {fp1 : M (Nat × List Nat)} {fs : M (List Rv)} {o i e : Expr} {apos cpos : Pos}
variable {tpos : Pos} {fi fe : M Rv}
noncomputable def zipP (ds es : List PyData) : List PyData := (ds.zip es).map fun p => .tuple [p.1, p.2]
noncomputable def lzip1 (rs : List Rv) : M Rv := fun ρ => match rs with
  | [x, y] => (match derS ρ x, derS ρ y with
    | some (.list ds), some (.list es) => if ds.length = es.length then some (.ok (.d (.list (zipP ds es))) ρ) else none
    | _, _ => none)
  | _ => none
noncomputable def cListZip (fs : M (List Rv)) : M Rv := bnd fs lzip1
variable {e2 : Expr} {p p' pos' : Pos}
noncomputable def tupled : PyData → Bool
  | .tuple (_ :: _) => true
  | _ => false
noncomputable def untupled : PyData → Bool
  | .tuple _ => false
  | .none => false
  | _ => true
noncomputable def sortOk (ds : List PyData) : Bool := ds.all (fun d => ds.all (fun e => PySem.W.alike d e)) && (ds.all tupled || ds.all untupled) && ds.all (fun d => decide (d.depth ≤ 60)) && ds.all PyData.canLay0
noncomputable def sortL (ds : List PyData) : List PyData := ds.mergeSort (PySem.W.dataLe false id)
noncomputable def sortedD : List PyData → Option PyData
  | [.list ds] => if sortOk ds then some (.list (sortL ds)) else none
  | _ => none
end
end VL

end

section
set_option Elab.async false
set_option linter.all false
set_option maxRecDepth 100000
namespace VL
open PySem PySem.Spec PyProof.Rows L2
noncomputable def Kp (S : List Nat) (fp : FP) (H H' : Hp) : Prop := ∀ j ∈ S, ∀ c ∈ fp j, H' c = H c
noncomputable def VIS (X : Cx) (S T : List Nat) (W : WV) (tg e : Expr) (f : M (List PyData)) : Prop := ∃ wi, PI X tg e wi ∧ ∀ σ H R F ρ fp o, EnvOk X.K F H σ ρ fp → f ρ = some o →
  (match o with
   | Er.ok xs ρ' => ∀ J G Y H1 F1 fp1, EStep X.K T F H σ ρ fp F1 H1 ρ' fp1 → Walk J xs.length G Y → (∀ F2 H2, Same F1 F2 → Same F2 H2 → Kp S fp1 H1 H2 → G H2) →
      (∀ i F2 H2 x H3, i < xs.length → Same F1 F2 → Same F2 H2 → Kp S fp1 H1 H2 → Y i H2 x H3 → ∃ F3 d, xs[i]? = some d ∧ (TbOk X.K F2 H2 → Grow2 X.K F2 H2 F3 H3) ∧ Dq X.K F3 x d) → R J H1
   | Er.ex c ρ' => ∀ H1 F1 fp1, EStep X.K T F H σ ρ fp F1 H1 ρ' fp1 → W c σ H1) → wi σ H R
section
variable {X : Cx} {T T1 T2 T3 : List Nat} {W : WV} {pos : Pos}
noncomputable def iOwn (i : Nat) : M (List PyData) := fun ρ => match ρ[i]? with
  | some (.own _ (.lst ts)) => (match flat ts with
    | some ds => some (.ok ds ρ)
    | none => none)
  | _ => none
theorem vis_own (i : Nat) {tg : Expr} {x : Str} {pos : Pos} (hN : X.N[i]? = some x := by rfl) (hv : Vis X.env.scope x := by first | exact Or.inl rfl | exact Or.inr (Or.inl rfl) | exact Or.inr (Or.inr rfl)) (hd : (x == ("__debug__" : Str)) = false := by decide)
    (hcd : (x == ("__classdict__" : Str)) = false := by decide) : VIS X [i] [] W tg (.Name x pos) (iOwn i) := by
  refine ⟨_, pi_list (pe_var hN hv hd hcd), fun σ H R F ρ fp o E q P => ?_⟩
  unfold iOwn at q
  split at q
  · rename_i m ts h
    split at q
    · rename_i ds hf
      cases q
      obtain ⟨u, hu, q⟩ := E.sl i _ h
      have ets := flat_ok hf
      subst ets
      generalize hA : fp i = A at q
      cases q with
      | @lst a0 vs0 _ A0 h1 h2 h3 =>
        obtain ⟨_, ha⟩ := trs_dat' h3
        have mem : a0 ∈ fp i := by rw [hA]; exact List.mem_cons_self
        have w0 := walk_list (K := X.K) (a := a0) (xs := vs0)
        rw [dqAll_len ha] at w0
        refine ⟨_, sg_some.mp hu, a0, rfl, ⟨_, .inl (.inl h1)⟩, P _ _ _ H F fp (.refl E) w0 (fun F2 H2 a b k => .inl (.inl ((k i (by simp) a0 mem).trans h1))) fun j F2 H2 x H3 hi a b k y => ?_⟩
        obtain ⟨rfl, hy⟩ := y
        obtain ⟨v, hv, dv⟩ := dqAll_get ha (List.getElem?_eq_getElem hi)
        rw [hv] at hy; cases hy
        exact ⟨F2, _, List.getElem?_eq_getElem hi, .refl b, dq_mono a _ _ dv⟩
    · cases q
  · cases q
theorem tv_compS {K : Fg} {S : List Nat} {σ : Sg} {H : Hp} {Q : VK} {wi : TI} {fi : M (List PyData)} {gt : TG} {ws vs : List Nat} {G : MG} {tt : M Bool} {te : M Rv}
    (hi : ∀ σ H R F ρ fp o, EnvOk K F H σ ρ fp → fi ρ = some o →
      (match o with
       | Er.ok xs ρ' => ∀ J G Y H1 F1 fp1, EStep K T1 F H σ ρ fp F1 H1 ρ' fp1 → Walk J xs.length G Y → (∀ F2 H2, Same F1 F2 → Same F2 H2 → Kp S fp1 H1 H2 → G H2) →
          (∀ i F2 H2 x H3, i < xs.length → Same F1 F2 → Same F2 H2 → Kp S fp1 H1 H2 → Y i H2 x H3 → ∃ F3 d, xs[i]? = some d ∧ (TbOk K F2 H2 → Grow2 K F2 H2 F3 H3) ∧ Dq K F3 x d) → R J H1
       | Er.ex c ρ' => ∀ H1 F1 fp1, EStep K T1 F H σ ρ fp F1 H1 ρ' fp1 → W c σ H1) → wi σ H R)
    (hS : ∀ j ∈ S, j ∉ vs ∧ j ∉ T2 ++ T3) (hg : GOk K gt ws G) (hw : ∀ i ∈ ws, i ∈ vs) (h : tVN K (T1 ++ (T2 ++ T3)) W (nComp fi vs G tt te) σ H Q) : tLc wi gt (tVT K T2 W0 tt) (tV K T3 W0 te) vs σ H Q := by
  obtain ⟨F, ρ, fp, o, E, e, P⟩ := h
  unfold nComp bnd at e
  cases hf : fi ρ with
  | none => rw [hf] at e; cases e
  | some r =>
    rw [hf] at e
    cases r with
    | ex c ρ1 => cases e; exact hi σ H _ F ρ fp _ E hf fun H1 F1 fp1 s1 => P H1 F1 fp1 (s1.sub fun i hi => List.mem_append_left _ hi)
    | ok xs ρ1 =>
      refine hi σ H _ F ρ fp _ E hf fun J Gw Y H1 F1 fp1 s1 w hG hY D nD => ?_
      simp only at e
      unfold comp1 at e
      split at e
      · rename_i hn1
        split at e
        · rename_i ds ρe hgo
          split at e
          · rename_i hne
            cases ok_inj e
            have hFD : F1 D = none := s1.env.sub.free nD
            have hOD : ¬ Owns fp1 D := fun z => (s1.env.there z).1 nD
            have kpS : ∀ {F' H' : Hp} {ρ' : Rho} {fp' : FP}, Blk K (T2 ++ T3) vs F1 H1 σ ρ1 fp1 F' (hid H' D) (wipe σ vs) ρ' fp' → Kp S fp1 H1 H' := fun {F' H' ρ' fp'} b j hj c hc => by
              have z := (b.un j (hS j hj).1 (hS j hj).2).2.2 c hc
              have hne : c ≠ D := fun e => by subst e; exact hOD ⟨j, hc⟩
              rw [hid_ne hne] at z
              exact z
            -- the block's start, the list being hidden
            have b0 : Blk K (T2 ++ T3) vs F1 H1 σ ρ1 fp1 F1 (hid (upd H1 D (.lst [])) D) (wipe σ vs) (wipeR ρ1 vs) fp1 := by
              rw [hid_upd, hid_free nD]
              exact .of_w s1.env hn1 (wipe_length σ vs) fun i hi => wipe_out hi
            refine lc_it w (fun i H' => ∃ F' ρ' fp' acc ds', Blk K (T2 ++ T3) vs F1 H1 σ ρ1 fp1 F' (hid H' D) (wipe σ vs) ρ' fp' ∧ H' D = some (.lst acc) ∧ F' D = none ∧ ¬ Owns fp' D ∧ DqAll K F' acc ds' ∧ compGo vs G tt te (xs.drop i) ds' ρ' = some (ds, ρe))
              ⟨F1, wipeR ρ1 vs, fp1, [], [], b0, upd_same, hFD, hOD, .nil, by rw [List.drop_zero]; exact hgo⟩
              (fun i H' _ ⟨F', ρ', fp', acc, ds', b, _⟩ => hG F' H' b.st.fr (env_show b.st.env).sub (kpS b)) (fun i x H' H3 hilt ⟨F', ρ', fp', acc, ds', b, hD, hFD', hOD', hacc, hgo'⟩ y => ?_) fun H' ⟨F', ρ', fp', acc, ds', b, hD, hFD', hOD', hacc, hgo'⟩ => ?_
            · have E' := env_show b.st.env
              obtain ⟨F3, d, hd, g3, dx⟩ := hY i F' H' x H3 hilt b.st.fr E'.sub (kpS b) y
              have g3 := g3 E'.tb
              have hdrop : xs.drop i = d :: xs.drop (i + 1) := by
                obtain ⟨hi', hd'⟩ := List.getElem?_eq_some_iff.mp hd
                rw [List.drop_eq_getElem_cons hi', hd']
              rw [hdrop] at hgo'
              unfold compGo at hgo'
              have s3 : EStep K [] F' H' (wipe σ vs) ρ' fp' F3 H3 ρ' fp' := g3.step E'
              obtain ⟨hD3, hF3, hO3⟩ := step_keeps s3.st hD hFD' hOD'
              have b3 : Blk K (T2 ++ T3) vs F1 H1 σ ρ1 fp1 F3 (hid H3 D) (wipe σ vs) ρ' fp' := b.trans ((Blk.of_e E' s3 (fun i hi => nomatch hi)).hid hF3 hO3 hD3)
              split at hgo'
              · cases hgo'
              · rename_i ρ4 h4
                refine hg x (wipe σ vs) H3 _ F3 ρ' fp' d ρ4 s3.env dx h4 fun σ4 fp4 s4 o4 => ?_
                have hF4 := hF3
                obtain ⟨hD4, _, hO4⟩ := step_keeps s4 hD3 hF3 hO3
                have b4 := b3.trans ((Blk.of_g (T := T2 ++ T3) s3.env s4 o4 hw).hid hF4 hO4 hD4)
                have hσ4 : wipe σ4 vs = wipe σ vs := wipe_same b4.len b4.sv
                refine ⟨hσ4, ?_⟩
                cases htt : tt ρ4 with
                | none => rw [htt] at hgo'; cases hgo'
                | some rt =>
                  rw [htt] at hgo'
                  cases rt with
                  | ex c ρ5 => cases hgo'
                  | ok k ρ5 =>
                    refine ⟨F3, ρ4, fp4, _, s4.env, htt, fun k' H5 F5 fp5 s5 r5 => ?_⟩
                    have r5 : k' = k := r5
                    subst r5
                    obtain ⟨hD5, hF5, hO5⟩ := step_keeps s5.st hD4 hF4 hO4
                    have b5 := b4.trans ((Blk.of_e (vs := vs) (T := T2 ++ T3) s4.env s5 (fun i hi => List.mem_append_left _ hi)).hid hF5 hO5 hD5)
                    cases k' with
                    | false =>
                      dsimp only
                      rw [if_neg Bool.false_ne_true]
                      simp only at hgo'
                      split at hgo'
                      · rename_i hn5
                        have bw := (Blk.of_w (T := T2 ++ T3) (σin := wipe σ vs) s5.env hn5 (by rw [wipe_length]; exact b5.len.symm) fun i hi => by rw [wipe_out hi]; exact (b5.sv i hi).symm).hid hF5 hO5 hD5
                        exact ⟨F5, wipeR ρ5 vs, fp5, acc, ds', b5.trans bw, hD5, hF5, hO5, dqAll_mono (g3.f.trans s5.st.fr) _ _ hacc, hgo'⟩
                      · cases hgo'
                    | true =>
                      dsimp only
                      rw [if_pos rfl]
                      simp only at hgo'
                      cases hte : te ρ5 with
                      | none => rw [hte] at hgo'; cases hgo'
                      | some re =>
                        rw [hte] at hgo'
                        cases re with
                        | ex c ρ6 => cases hgo'
                        | ok rv ρ6 =>
                          cases rv with
                          | o j => cases hgo'
                          | d d6 =>
                            refine ⟨F5, ρ5, fp5, _, s5.env, hte, fun y6 H6 F6 fp6 s6 r6 => ?_⟩
                            obtain ⟨hD6, hF6, hO6⟩ := step_keeps s6.st hD5 hF5 hO5
                            have b6 := b5.trans ((Blk.of_e (vs := vs) (T := T2 ++ T3) s5.env s6 (fun i hi => List.mem_append_right _ hi)).hid hF6 hO6 hD6)
                            simp only at hgo'
                            split at hgo'
                            · rename_i hn6
                              rw [Bool.and_eq_true] at hn6
                              have hacc6 := dqAll_mono (g3.f.trans (s5.st.fr.trans s6.st.fr)) _ _ hacc
                              refine ⟨acc, hD6, ?_, F6, wipeR ρ6 vs, fp6, acc ++ [y6], ds' ++ [d6], ?_, upd_same, hF6, hO6, dqAll_app hacc6 (.cons r6 .nil), hgo'⟩
                              · have := small_iff.mp hn6.1
                                rw [dqAll_len hacc6]
                                omega
                              · rw [hid_upd]
                                have bw := (Blk.of_w (T := T2 ++ T3) (σin := wipe σ vs) s6.env hn6.2 (by rw [wipe_length]; exact b6.len.symm) fun i hi => by rw [wipe_out hi]; exact (b6.sv i hi).symm).hid hF6 hO6 hD6
                                exact b6.trans bw
                            · cases hgo'
            · rw [List.drop_length] at hgo'
              cases (Option.some.inj hgo')
              -- the end: the slots as they were
              have E' := env_show b.st.env
              have hl1 : ρ1.length = ρe.length := b.rl.symm
              have slot : ∀ (i : Nat), i ∈ vs → (restR ρ1 ρe vs)[i]? = ρ1[i]? := fun i hi => restR_in hl1 hi
              have Er : EnvOk K F' H' σ (restR ρ1 ρe vs) fp' := by
                refine ⟨E'.sub, by rw [restR_len, ← hl1]; exact s1.env.len, fun i s hs => ?_, fun i hi => ?_, E'.nd, E'.ap, E'.tb, E'.al' (fun j i p h => ?_) fun i p t h => ?_⟩
                rotate_left 2
                · by_cases hv : j ∈ vs
                  · rw [slot j hv] at h; exact absurd h (noOwn_al hn1 hv i p)
                  · rw [restR_out hv] at h; exact ⟨h, (wipe_out hv).symm⟩
                · by_cases hv : i ∈ vs
                  · rw [slot i hv] at h; exact absurd h (noOwn_get hn1 hv _ t)
                  · rw [restR_out hv] at h; exact ⟨h, (wipe_out hv).symm, fun _ _ => rfl⟩
                rotate_right 2
                · by_cases hv : i ∈ vs
                  · rw [slot i hv] at hs
                    have q := s1.env.sl i s hs
                    cases s with
                    | no => trivial
                    | al _ _ => trivial
                    | val d => obtain ⟨u, e1, e2⟩ := q; exact ⟨u, e1, dq_mono b.st.fr _ _ e2⟩
                    | own m t => exact absurd hs (noOwn_get hn1 hv m t)
                  · rw [restR_out hv] at hs
                    have q := E'.sl i s hs
                    rw [wipe_out hv] at q
                    exact q
                · by_cases hv : i ∈ vs
                  · exact E'.nil i fun m t z => noOwn_get hne hv m t z
                  · refine E'.nil i fun m t z => hi m t ?_
                    rw [restR_out hv]; exact z
              have fin : EStep K (T1 ++ (T2 ++ T3)) F1 H1 σ ρ1 fp1 F' H' (restR ρ1 ρe vs) fp' := by
                refine ⟨⟨Er, b.st.fr, b.st.nf, fun c hc => ?_, fun c o hc hn nt => (hid_some (b.st.frame c o hc hn nt)).2, b.st.own, fun i m t h hm => ?_, fun i t h => ?_⟩, fun i m t h => ?_, fun i hi => ?_⟩
                · refine b.st.dom c ?_
                  by_cases z : c = D
                  · subst z; exact hid_at
                  · rw [hid_ne z]; exact hc
                · have hv : i ∉ vs := fun z => noOwn_get hn1 z _ _ h
                  obtain ⟨_, m', t', h', k'⟩ := b.st.pin i m t h hm
                  exact ⟨rfl, m', t', by rw [restR_out hv]; exact h', k'⟩
                · have hv : i ∉ vs := fun z => noOwn_get hn1 z _ _ h
                  obtain ⟨_, h', hfp, hb⟩ := b.st.lock i t h
                  refine ⟨rfl, by rw [restR_out hv]; exact h', hfp, fun c hc => ?_⟩
                  have z := hb c hc
                  have hne : c ≠ D := fun z => by subst z; exact hOD ⟨i, hc⟩
                  rw [hid_ne hne] at z
                  exact z
                · have hv : i ∉ vs := fun z => noOwn_get hn1 z _ _ h
                  obtain ⟨t', h'⟩ := b.ko i m t hv h
                  exact ⟨t', by rw [restR_out hv]; exact h'⟩
                · by_cases hv : i ∈ vs
                  · have hnil : fp1 i = [] := s1.env.nil i fun m t z => noOwn_get hn1 hv m t z
                    have hnil' : fp' i = [] := E'.nil i fun m t z => noOwn_get hne hv m t z
                    refine ⟨slot i hv, by rw [hnil, hnil'], fun c hc => ?_⟩
                    rw [hnil] at hc
                    cases hc
                  · obtain ⟨a1, a2, a3⟩ := b.un i hv fun z => hi (List.mem_append_right _ z)
                    refine ⟨by rw [restR_out hv]; exact a1, a2, fun c hc => ?_⟩
                    have z := a3 c hc
                    have hne : c ≠ D := fun z => by subst z; exact hOD ⟨i, hc⟩
                    rw [hid_ne hne] at z
                    exact z
              refine P (.ref D) H' F' fp' ((s1.sub fun i hi => List.mem_append_left _ hi).trans fin) ⟨[D], ?_⟩
              refine ⟨.lst hD hFD' (trs_dat hacc), by simp, fun c hc => ?_, fun c hc => ?_⟩
              · rw [List.mem_singleton.mp hc]
                exact .inl (s1.st.dom D nD)
              · rw [List.mem_singleton.mp hc]
                exact hOD'
          · cases e
        · cases e
      · cases e
theorem vn_compS {S : List Nat} {elt tg iter : Expr} {ifs : List Expr} {scope : Scope} {own : List (Str × Nat)} {fi : M (List PyData)} {gt : TG} {ws : List Nat} {G : MG} {tt : M Bool} {te : M Rv} (hc : X.calm = true) (hN : X.N.Nodup) (hi : VIS X S T1 W tg iter fi) (ok : BlkOk X.N X.env.scope scope own)
    (hg : ∀ (s : Shared) (H : Hp) (C : Addr) (cl : List (Str × Addr)) (fp : List Addr), VG (X.blk s H scope (compEnvC scope cl C X.env) fp) tg gt ws G) (hw : ∀ i ∈ ws, i ∈ own.map (·.2)) (hS : ∀ j ∈ S, j ∉ own.map (·.2) ∧ j ∉ T2 ++ T3)
    (ht : ∀ (s : Shared) (H : Hp) (C : Addr) (cl : List (Str × Addr)) (fp : List Addr), VTs (X.blk s H scope (compEnvC scope cl C X.env) fp) T2 W0 ifs tt)
    (he : ∀ (s : Shared) (H : Hp) (C : Addr) (cl : List (Str × Addr)) (fp : List Addr), VE (X.blk s H scope (compEnvC scope cl C X.env) fp) T3 W0 elt te) (hs : ∀ x, foldedSetIterable iter X.env x = pure x := by intro _; rfl) :
    VN X (T1 ++ (T2 ++ T3)) W (.ListComp elt [⟨tg, iter, ifs, 0⟩] scope pos) (nComp fi (own.map (·.2)) G tt te) := by
  obtain ⟨wi, p1, q1⟩ := hi
  exact pe_imp (pe_lc (tt := tVT X.K T2 W0 tt) (te := tV X.K T3 W0 te) hc hN p1 ok (fun s H C cl fp => (hg s H C cl fp).1) ht he hs) fun σ H Q h => tv_compS q1 hS (hg ⟨X.s_0.heap, X.s_0.gens, X.s_0.drawn, X.s_0.toks, X.s_0.os⟩ X.H_0 0 [] []).2 hw h
end
section
variable {X : Cx} {T : List Nat} {W : WV} {K : Fg} {fs : M (List Rv)} {e e2 : Expr} {p p' pos pos' : Pos}
noncomputable def nzip1 (rs : List Rv) : M Tr := fun ρ => match rs with
  | [x, y] => (match derS ρ x, derS ρ y with
    | some (.list ds), some (.list es) => if ds.length = es.length then some (.ok (.lst ((zipP ds es).map .dat)) ρ) else none
    | _, _ => none)
  | _ => none
noncomputable def nListZip (fs : M (List Rv)) : M Tr := bnd fs nzip1
noncomputable def cat1 (x y : Rv) : M Tr := fun ρ => match derS ρ x, derS ρ y with
  | some (.list as), some (.list bs) => if small (as.length + bs.length) then some (.ok (.lst ((as ++ bs).map .dat)) ρ) else none
  | _, _ => none
noncomputable def nCat (fa fb : M Rv) : M Tr := bnd fa fun x => bnd fb fun y => cat1 x y
variable {T1 T2 : List Nat} {fa fb : M Rv} {a b : Expr}
end
end VL

end

section
set_option Elab.async false
set_option linter.all false
set_option maxRecDepth 100000
namespace VL
open PySem PySem.Spec PyProof.Rows L2
section
variable {X : Cx} {T T1 T2 T3 : List Nat} {W : WV} {K : Fg} {pos : Pos}
noncomputable def mkDT (x y : Rv) : M Tr := fun ρ => match x, y with
  | .d kd, .d d => (match keyT kd with
    | some ks => some (.ok (.dt [(ks, .dat d)]) ρ)
    | none => none)
  | _, _ => none
noncomputable def nDT (fk fv : M Rv) : M Tr := bnd fk fun x => bnd fv fun y => mkDT x y
variable {x : Str} {e : Expr} {fs : M (List Rv)} {apos cpos xpos : Pos}
noncomputable def call1T (f : Fn) (t : Tr) : M Tr := fun ρ => match f [.own .free t] with
  | some (.ret r, _) => some (.ok r ρ)
  | _ => none
noncomputable def nCallT (f : Fn) (g : M Tr) : M Tr := bnd g (call1T f)
variable {k : Nat} {f : Addr} {fd : FuncData} {ps : List Str} {F : Fn} {p : Pos} {fn : M Tr}
end
end VL

end

section
set_option Elab.async false
set_option linter.all false
set_option maxRecDepth 100000
namespace VL
open PySem PySem.Spec PyProof.Rows L2
section
variable {X : Cx} {T T1 T2 : List Nat} {W : WV} {K : Fg} {pos : Pos}
noncomputable def intKeys : List (Key × Tr) → Option (List Int)
  | [] => some []
  | (.inl i, _) :: r => (intKeys r).map (i :: ·)
  | _ :: _ => none
noncomputable def sortI (ks : List Int) : List Int := ks.mergeSort fun a b => decide (a ≤ b)
noncomputable def cSortDI (f : M (Nat × List Nat)) : M Rv := bnd f fun r => fun ρ => match treeAt ρ r with
  | some (.dk kvs) => (match intKeys kvs with
    | some ks => some (.ok (.d (.list ((sortI ks).map .int))) ρ)
    | none => none)
  | _ => none
variable {e : Expr} {x : Str} {p : Pos} {fp1 : M (Nat × List Nat)}
end
end VL

end

section
set_option Elab.async false
set_option linter.all false
set_option maxRecDepth 100000
namespace VL
open PySem PySem.Spec PyProof.Rows L2
theorem mode_nb {ρ : Rho} {i : Nat} {m : Md} {t : Tr} (h : modeOk ρ i = true) (e : ρ[i]? = some (.own m t)) : plainSl (.own m t) = true := by
  unfold modeOk at h
  rw [e] at h
  cases m with
  | lock => cases h
  | bor _ => cases h
  | free => rfl
  | pin => rfl
theorem KT.upd {H : Hp} {d b : Addr} {o : HO} (h : KT (L2.upd H d o) b) (h1 : ∀ ks : List Key, o ≠ .tup (ks.map kV)) (h2 : ∀ ps, o ≠ .tbl ps) : KT H b := by
  unfold KT at h ⊢
  by_cases e : b = d
  · subst e
    rw [upd_same] at h
    rcases h with ⟨ks, h⟩ | ⟨ps, h⟩
    · exact absurd (Option.some.inj h) (h1 ks)
    · exact absurd (Option.some.inj h) (h2 ps)
  · rw [upd_ne e] at h
    exact h
section
variable {X : Cx} {T T1 T2 : List Nat} {W : WV} {K : Fg} {pos : Pos} {e : Expr}
noncomputable def keyPD : Key → PyData
  | .inl i => .int i
  | .inr z => .str z
theorem keyPD_ok {F : Hp} {k : Key} : Dq K F (kV k) (keyPD k) := by
  cases k with
  | inl i => exact .int i
  | inr z => exact .str z
end
end VL

end

section
set_option Elab.async false
set_option linter.all false
set_option maxRecDepth 100000
namespace VL
open PySem PySem.Spec PyProof.Rows L2
section
variable {X : Cx} {T T1 T2 : List Nat} {W : WV} {K : Fg} {pos : Pos}
noncomputable def nnone : PyData → Bool
  | .none => false
  | _ => true
noncomputable def maxOk (ds : List PyData) : Bool := ds.all (fun d => ds.all fun e => PySem.W.alike d e) && ds.all nnone && decide (PyData.depthAll ds ≤ 60) && ds.all PyData.canLay0
noncomputable def maxTD : List PyData → Option PyData
  | [.list (d :: ds)] => if maxOk (d :: ds) then some (PySem.W.maxD d ds) else none
  | _ => none
variable {fa fb : M Rv} {a b : Expr} {rest : List Expr}
end
end VL

end

section
set_option Elab.async false
set_option linter.all false
set_option maxRecDepth 100000
namespace VL
open PySem PySem.Spec PyProof.Rows L2
structure NewsOk (K : Fg) (H : Hp) (fp : FP) (F' H' : Hp) (fp' : FP) (vs : List V) (ts : List Tr) (A : List Addr) : Prop where
  ok : TrsOk K F' H' vs ts A
  nd : A.Nodup
  new : ∀ b ∈ A, H b = none ∨ Owns fp b
  out : ∀ b ∈ A, ¬ Owns fp' b
theorem step_off {K : Fg} {F H F1 H1 : Hp} {σ σ1 : Sg} {ρ ρ1 : Rho} {fp fp1 : FP} (s : Step K F H σ ρ fp F1 H1 σ1 ρ1 fp1) {A : List Addr} (hA : ∀ b ∈ A, H b ≠ none ∧ F b = none) (hK : ∀ b ∈ A, ¬ KT H b) (ho : ∀ b ∈ A, ¬ Owns fp b) :
    (∀ b ∈ A, H1 b = H b ∧ F1 b = none) ∧ ∀ b ∈ A, ¬ Owns fp1 b := by
  refine ⟨fun b hb => ⟨?_, ?_⟩, fun b hb h => ?_⟩
  · cases q : H b with
    | none => exact absurd q (hA b hb).1
    | some o => exact s.frame b o q (ho b hb) fun ps z => hK b hb (.inr ⟨ps, z ▸ q⟩)
  · cases q : F1 b with
    | none => rfl
    | some o =>
      rcases s.nf b (hA b hb).2 (by rw [q]; exact fun z => nomatch z) with z | z | z
      · exact absurd z (hA b hb).1
      · exact absurd z (ho b hb)
      · exact absurd z (hK b hb)
  · rcases s.own b h with z | z
    · exact ho b hb z
    · exact (hA b hb).1 z
theorem NewOk.keep {K : Fg} {H0 F H F1 H1 : Hp} {σ σ1 : Sg} {ρ ρ1 : Rho} {fp0 fp fp1 : FP} {v : V} {t : Tr} {A : List Addr} (n : NewOk K H0 fp0 F H fp v t A) (s : Step K F H σ ρ fp F1 H1 σ1 ρ1 fp1) : NewOk K H0 fp0 F1 H1 fp1 v t A := by
  obtain ⟨h1, h2⟩ := step_off s n.ok.mem n.ok.nkt n.out
  exact ⟨n.ok.move s.fr h1, n.nd, n.new, h2⟩
theorem NewsOk.keep {K : Fg} {H0 F H F1 H1 : Hp} {σ σ1 : Sg} {ρ ρ1 : Rho} {fp0 fp fp1 : FP} {v : List V} {t : List Tr} {A : List Addr} (n : NewsOk K H0 fp0 F H fp v t A) (s : Step K F H σ ρ fp F1 H1 σ1 ρ1 fp1) : NewsOk K H0 fp0 F1 H1 fp1 v t A := by
  obtain ⟨h1, h2⟩ := step_off s n.ok.mem n.ok.nkt n.out
  exact ⟨n.ok.move s.fr h1, n.nd, n.new, h2⟩
noncomputable def rlNs (K : Fg) : Rl K (List Tr) (List V) := ⟨fun H fp F' H' fp' _ _ v t => ∃ A, NewsOk K H fp F' H' fp' v t A, fun e h => by
  obtain ⟨A, h⟩ := h
  refine ⟨A, h.ok, h.nd, fun b hb => ?_, h.out⟩
  rcases h.new b hb with z | z
  · exact .inl (e.st.dom b z)
  · exact (e.st.own b z).symm⟩
noncomputable abbrev tVNs (K : Fg) (T : List Nat) (W : WV) (f : M (List Tr)) : TA := fun σ H Q => TVg T W (rlNs K) f σ H Q
noncomputable def VNs (X : Cx) (T : List Nat) (W : WV) (es : List Expr) (f : M (List Tr)) : Prop := PA X es (tVNs X.K T W f)
noncomputable def tNilM : M (List Tr) := ret []
noncomputable def tConsM (f : M Tr) (g : M (List Tr)) : M (List Tr) := bnd f fun x => bnd g fun xs => ret (x :: xs)
section
variable {X : Cx} {T T1 T2 T3 : List Nat} {W : WV} {K : Fg} {fn : M Tr} {fs : M (List Tr)} {e : Expr} {es : List Expr} {pos : Pos}
theorem vns_nil : VNs X [] W [] tNilM := pa_imp pa_nil fun σ H Q ⟨F, ρ, fp, o, E, e, P⟩ => by
  cases ok_inj e
  exact P _ H F fp (.refl E) ⟨[], .nil, List.nodup_nil, (fun _ h => nomatch h), (fun _ h => nomatch h)⟩
theorem news_cons {H F1 H1 F2 H2 : Hp} {σ : Sg} {ρ1 ρ2 : Rho} {fp fp1 fp2 : FP} {v : V} {vs : List V} {t : Tr} {ts : List Tr} {A B : List Addr} (n1 : NewOk K H fp F1 H1 fp1 v t A) (s2 : EStep K T F1 H1 σ ρ1 fp1 F2 H2 ρ2 fp2) (n2 : NewsOk K H1 fp1 F2 H2 fp2 vs ts B)
    {F : Hp} {ρ : Rho} (s1 : EStep K T1 F H σ ρ fp F1 H1 ρ1 fp1) : NewsOk K H fp F2 H2 fp2 (v :: vs) (t :: ts) (A ++ B) := by
  have k1 := n1.keep s2.st
  refine ⟨.cons k1.ok n2.ok, ?_, fun b hb => ?_, fun b hb => ?_⟩
  · rw [List.nodup_append]
    refine ⟨k1.nd, n2.nd, fun a ha b hb e => ?_⟩
    subst e
    rcases n2.new a hb with z | z
    · exact (n1.ok.mem a ha).1 z
    · exact n1.out a ha z
  · rcases List.mem_append.mp hb with z | z
    · exact k1.new b z
    · rcases n2.new b z with q | q
      · exact .inl (s1.st.dom b q)
      · exact (s1.st.own b q).symm
  · rcases List.mem_append.mp hb with z | z
    · exact k1.out b z
    · exact n2.out b z
theorem vns_cons (ha : VN X T1 W e fn) (hb : VNs X T2 W es fs) (hs : starEach (e :: es) X.env = (false, eval e X.env) :: starEach es X.env := by rfl) : VNs X (T1 ++ T2) W (e :: es) (tConsM fn fs) :=
  pa_imp (pa_cons ha hb hs) fun σ H Q ⟨F, ρ, fp, o, E, e, P⟩ => by
    unfold tConsM bnd at e
    cases h1 : fn ρ with
    | none => rw [h1] at e; cases e
    | some r =>
      rw [h1] at e
      cases r with
      | ex c ρ1 =>
        cases e
        exact ⟨F, ρ, fp, _, E, h1, fun H1 F1 fp1 st => P H1 F1 fp1 (st.sub fun i hi => List.mem_append_left _ hi)⟩
      | ok t ρ1 =>
        refine ⟨F, ρ, fp, _, E, h1, fun v H1 F1 fp1 s1 ⟨A, n1⟩ => ?_⟩
        simp only at e
        cases h2 : fs ρ1 with
        | none => rw [h2] at e; cases e
        | some r2 =>
          rw [h2] at e
          cases r2 with
          | ex c ρ2 =>
            cases e
            exact ⟨F1, ρ1, fp1, _, s1.env, h2, fun H2 F2 fp2 s2 => P H2 F2 fp2 ((s1.sub fun i hi => List.mem_append_left _ hi).trans (s2.sub fun i hi => List.mem_append_right _ hi))⟩
          | ok ts ρ2 =>
            cases ok_inj e
            exact ⟨F1, ρ1, fp1, _, s1.env, h2, fun vs H2 F2 fp2 s2 ⟨B, n2⟩ => P _ H2 F2 fp2 ((s1.sub fun i hi => List.mem_append_left _ hi).trans (s2.sub fun i hi => List.mem_append_right _ hi)) ⟨_, news_cons n1 s2 n2 s1⟩⟩
theorem news_lay {F H F1 H1 : Hp} {σ : Sg} {ρ ρ1 : Rho} {fp fp1 : FP} {vs : List V} {ts : List Tr} {A : List Addr} {p : Addr} {o : HO} (n : NewsOk K H fp F1 H1 fp1 vs ts A) (s1 : EStep K T F H σ ρ fp F1 H1 ρ1 fp1) (np : H1 p = none) :
    EStep K T F H σ ρ fp F1 (upd H1 p o) ρ1 fp1 ∧ TrsOk K F1 (upd H1 p o) vs ts A ∧ (p :: A).Nodup ∧ (∀ b ∈ p :: A, H b = none ∨ Owns fp b) ∧ ∀ b ∈ p :: A, ¬ Owns fp1 b := by
  have g := Grow.lay o s1.env.sub np
  have hne : ∀ b ∈ A, b ≠ p := fun b hb z => (n.ok.mem b hb).1 (by rw [z]; exact np)
  refine ⟨s1.trans (g.step s1.env), n.ok.move (Same.refl _) fun b hb => ⟨upd_ne (hne b hb), (n.ok.mem b hb).2⟩, List.nodup_cons.mpr ⟨fun h => hne p h rfl, n.nd⟩, fun b hb => ?_, fun b hb h => ?_⟩
  · rcases List.mem_cons.mp hb with z | z
    · rw [z]; exact .inl (s1.st.dom p np)
    · exact n.new b z
  · rcases List.mem_cons.mp hb with z | z
    · rw [z] at h; exact (s1.env.there h).1 np
    · exact n.out b z h
noncomputable def isNode : Tr → Bool
  | .tup _ => true
  | .lst _ => true
  | .dk _ => true
  | .dt _ => true
  | .ins _ _ => true
  | _ => false
theorem node_ref {F H : Hp} {v : V} {t : Tr} {A : List Addr} (h : TrOk K F H v t A) (hn : isNode t = true) : ∃ a, v = .ref a := by
  cases h <;> first | exact ⟨_, rfl⟩ | cases hn
theorem nodes_no {F H : Hp} : ∀ {vs : List V} {ts : List Tr} {A : List Addr}, TrsOk K F H vs ts A → ts.any isNode = true → ∀ ks : List Key, vs ≠ ks.map kV
  | _, _, _, .nil, h, _ => by cases h
  | _, _, _, .cons q r, h, ks => by
    intro e
    rw [List.any_cons, Bool.or_eq_true] at h
    cases ks with
    | nil => cases e
    | cons k ks =>
      rw [List.map_cons] at e
      injection e with e1 e2
      rcases h with h | h
      · obtain ⟨a, rfl⟩ := node_ref q h
        cases k <;> cases e1
      · exact nodes_no r h ks e2
noncomputable def nTupT (fs : M (List Tr)) : M Tr := bnd fs fun ts => fun ρ => if small ts.length && ts.any isNode then some (.ok (.tup ts) ρ) else none
noncomputable def nLstT (fs : M (List Tr)) : M Tr := bnd fs fun ts => fun ρ => if small ts.length then some (.ok (.lst ts) ρ) else none
theorem vn_tupT {x1} (h : VNs X T W es fs) : VN X T W (.Tuple es x1 pos) (nTupT fs) := pe_imp (pe_tup h) fun σ H Q ⟨F, ρ, fp, o, E, e, P⟩ => by
  unfold nTupT bnd at e
  cases h1 : fs ρ with
  | none => rw [h1] at e; cases e
  | some r =>
    rw [h1] at e
    cases r with
    | ex c ρ1 => cases e; exact ⟨F, ρ, fp, _, E, h1, fun H1 F1 fp1 st => P H1 F1 fp1 st⟩
    | ok ts ρ1 =>
      simp only at e
      split at e
      · rename_i hz
        rw [Bool.and_eq_true] at hz
        cases ok_inj e
        refine ⟨F, ρ, fp, _, E, h1, fun vs H1 F1 fp1 s1 ⟨A, n⟩ => ⟨by rw [n.ok.len]; exact of_decide_eq_true hz.1, fun p np => ?_⟩⟩
        obtain ⟨s2, q1, q2, q3, q4⟩ := news_lay (o := .tup vs) n s1 np
        exact P _ _ _ fp1 s2 ⟨p :: A, .tup upd_same ⟨s1.env.sub.free np, nodes_no q1 hz.2⟩ q1, q2, q3, q4⟩
      · cases e
theorem set_stepW {F H F1 H1 : Hp} {σ σ1 : Sg} {ρ ρ1 ρ2 : Rho} {fp fp1 : FP} {i : Nat} {v : V} {s : Sl} {A : List Addr} (s1 : Step K F H σ ρ fp F1 H1 σ1 ρ1 fp1) (hset : setSl ρ1 i s = some ρ2) (hs : SlOk K F1 H1 (some v) A s) (hn : A.Nodup)
    (ho : ∀ b ∈ A, ¬ Owns fp1 b) (ha : isOwn s = false → A = []) (hw : ∀ b ∈ A, H b = none ∨ Owns fp b) (hp : plainSl s = true := by rfl) : Step K F H σ ρ fp F1 H1 (σ1.set i (some v)) ρ2 (fset fp1 i A) := by
  obtain ⟨rfl, hi, np, nl⟩ := setSl_some hset
  refine ⟨set_env s1.env hi hs hn ho ha hp, s1.fr, s1.nf, s1.dom, s1.frame, fun b hb => ?_, fun j m t hj hm => ?_, fun j t hj => ?_⟩
  · rcases hb.fset with z | z
    · exact (hw b z).symm
    · exact s1.own b z
  · obtain ⟨e1, m', t', h1, k1⟩ := s1.pin j m t hj hm
    have hji : i ≠ j := fun z => by subst z; rw [np m' t' h1] at k1; cases k1
    exact ⟨by rw [sg_set_ne hji]; exact e1, m', t', by rw [List.getElem?_set_ne hji]; exact h1, k1⟩
  · obtain ⟨e1, h1, f1, g1⟩ := s1.lock j t hj
    have hji : i ≠ j := fun z => by subst z; exact nl t h1
    refine ⟨by rw [sg_set_ne hji]; exact e1, by rw [List.getElem?_set_ne hji]; exact h1, ?_, g1⟩
    unfold fset
    rw [if_neg (Ne.symm hji)]
    exact f1
end
end VL

end

section
set_option Elab.async false
set_option linter.all false
set_option maxRecDepth 100000
namespace VL
open PySem PySem.Spec PyProof.Rows L2
section
variable {P : Program} {w : World} {A : Around} {E : Value → Shared → Prop} {s : Shared}
end
section
variable {X : Cx} {T T1 T2 : List Nat} {W : WV} {K : Fg} {pos : Pos}
end
end VL

end

section
set_option Elab.async false
set_option linter.all false
set_option maxRecDepth 100000
set_option maxHeartbeats 2000000
namespace VLH
open PySem PySem.Spec PyProof.Rows L2 HotX L2H
section
variable {X : Cx}
end
structure FnE (P : Program) (w : World) (K : PySem.W.Frag) (mg : Str → Option Value) (base : Heap) (k : Nat) (f : Addr) (fd : FuncData) (ps : List Str) (sp : Addr → Addr → Sp) : Prop where
  len : ∀ a D vs H Q E, sp a D vs H Q E → vs.length = ps.length
  run : ∀ (A : Around) (outer : List Env) (s : Shared) (H : Hp) (args : Args) (us : List Value) (vs : List V) (Q : VK) (E : XK) (p : Addr × Obj) (D : Addr), RoomH k A → Hot1 A p → PinOk outer H s p → Zc (.ref D) none p.2 → Env0 P w K mg base A outer s H → BindsTo s fd args (ps.zip us) → Vals vs us → sp p.1 D vs H Q E →
    codeAny (model P w) A (.call (.ref f) args) (CR CX0 outer P w H s Q E) s
end VLH

end

section
set_option Elab.async false
set_option linter.all false
set_option maxRecDepth 100000
set_option maxHeartbeats 2000000
namespace VL
open PySem PySem.Spec PyProof.Rows L2
section
variable {P : Program} {w : World} {K : PySem.W.Frag} {mg : Str → Option Value} {base : Heap}
end
noncomputable def callR (Ts : List Nat) (m : Nat) (f : Fn) (rs : List Rv) : M Tr := fun ρ => match argSls ρ rs with
  | some args => if decide (rs.length = m) && (oneEach rs && allIn Ts rs) then (match f args with
    | some (.ret t, outs) => if backOk args (mrg args outs) then some (.ok t (wb ρ rs (mrg args outs))) else none
    | some (.exc c, outs) => if backOk args (mrg args outs) then some (.ex c (wb ρ rs (mrg args outs))) else none
    | none => none) else none
  | none => none
noncomputable def nCallR (Ts : List Nat) (m : Nat) (f : Fn) (fs : M (List Rv)) : M Tr := bnd fs (callR Ts m f)
section
variable {X : Cx} {T : List Nat} {W : WV} {k m : Nat} {f : Addr} {fd : FuncData} {ps : List Str} {F : Fn} {x : Str} {p pos : Pos} {e : Expr} {es : List Expr} {fs : M (List Rv)} {Ts : List Nat}
noncomputable def sRaise (c : Str) : MS := fun ρ => some (.ex c ρ)
noncomputable def excB (K : PySem.W.Frag) (cs : List Addr) (C : Addr) : Bool :=
  PySem.W.excIn K C [.type "ValueError", .type "Exception", .type "BaseException", .type "object"] "ValueError.__new__" && PySem.W.keepIn K (.ref C) &&
  ((PySem.W.subIn K (.ref C) (.type "BaseException") == some true) && (PySem.W.typeIn K (.ref C) == some (.type "type"))) &&
  ((PySem.W.findIn K (.ref C) "__getattribute__" == some (some (.builtin "BaseException.__getattribute__"))) && (PySem.W.findIn K (.ref C) "__getattr__" == some none)) &&
  (PySem.W.hasDictIn K C && (PySem.W.findIn K (.ref C) "__class__" == some (some (.builtin "object.__class__")))) &&
  ((PySem.W.specialIn K (.builtin "object.__class__") "__get__" == some (some (.builtin "getset_descriptor.__get__"))) && (PySem.W.takesIn K (.builtin "object.__class__") == some true)) &&
  ((PySem.W.mroIn K C (.type "object") == some true) && (PySem.W.kitOne K (.ref C) (.type "ValueError") == some true)) &&
  cs.all (fun D => PySem.W.kitOne K (.ref C) (.ref D) == some (C == D))
structure ExcF (K : PySem.W.Frag) (cs : List Addr) (C : Addr) : Prop where
  ex : PySem.W.excIn K C [.type "ValueError", .type "Exception", .type "BaseException", .type "object"] "ValueError.__new__" = true
  kp : PySem.W.keepIn K (.ref C) = true
  sb : PySem.W.subIn K (.ref C) (.type "BaseException") = some true
  ty : PySem.W.typeIn K (.ref C) = some (.type "type")
  c : ExcC K C
  ve : PySem.W.kitOne K (.ref C) (.type "ValueError") = some true
  ds : ∀ D ∈ cs, PySem.W.kitOne K (.ref C) (.ref D) = some (C == D)
theorem excF_of {K : PySem.W.Frag} {cs : List Addr} {C : Addr} (h : excB K cs C = true) : ExcF K cs C := by
  unfold excB at h
  simp only [Bool.and_eq_true, beq_iff_eq, List.all_eq_true] at h
  obtain ⟨⟨⟨⟨⟨⟨⟨h1, h2⟩, h3, h4⟩, h5, h6⟩, h7, h8⟩, h9, h10⟩, h11, h12⟩, h13⟩ := h
  exact ⟨h1, h2, h3, h4, ⟨h5, h6, h3, h7, h8, h9, h10, h11⟩, h12, h13⟩
noncomputable def plusS : Str := ⟨#[43]⟩
noncomputable def isNo : Option Sl → Bool
  | some .no => true
  | _ => false
noncomputable def sTryK (cs : List Str) (j k : Nat) (g : MS) : MS := fun ρ => match g ρ with
  | some (.ex c ρ1) => if c ∈ cs ∧ isNo ρ1[j]? = true then (match setSl ρ1 k (.val (.str (c ++ plusS))) with
    | some ρ2 => if isNo ρ2[j]? then some (.nx ρ2) else none
    | none => none) else none
  | o => o
end
end VL

end

section
set_option Elab.async false
set_option linter.all false
set_option maxRecDepth 100000
namespace VL
open PySem PySem.Spec PyProof.Rows L2

noncomputable def okM {α : Type} (o : Option (Er α)) (P : α → Rho → Prop) : Prop := ∃ a ρ, o = some (.ok a ρ) ∧ P a ρ
noncomputable def okS (o : Option Out) (P : Out → Prop) : Prop := ∃ x, o = some x ∧ P x
noncomputable def okF (o : Option (FR × List Sl)) (P : Tr → List Sl → Prop) : Prop := ∃ t outs, o = some (.ret t, outs) ∧ P t outs
noncomputable def okR (o : Option Rho) (P : Rho → Prop) : Prop := ∃ ρ, o = some ρ ∧ P ρ
noncomputable def okO {α : Type} (o : Option α) (P : α → Prop) : Prop := ∃ a, o = some a ∧ P a
section
variable {α β : Type} {ρ : Rho}
@[simp] theorem okO_some {a : α} {P : α → Prop} : okO (some a) P ↔ P a := ⟨fun ⟨_, e, h⟩ => by cases e; exact h, fun h => ⟨_, rfl, h⟩⟩
@[simp] theorem okO_none {P : α → Prop} : okO (none : Option α) P ↔ False := ⟨fun ⟨_, e, _⟩ => (by cases e), False.elim⟩
@[simp] theorem okR_some {P : Rho → Prop} {ρ : Rho} : okR (some ρ) P ↔ P ρ := ⟨fun ⟨_, e, h⟩ => by cases e; exact h, fun h => ⟨_, rfl, h⟩⟩
@[simp] theorem okR_none {P : Rho → Prop} : okR none P ↔ False := ⟨fun ⟨_, e, _⟩ => (by cases e), False.elim⟩
@[simp] theorem okS_some {P : Out → Prop} {o : Out} : okS (some o) P ↔ P o := ⟨fun ⟨_, e, h⟩ => by cases e; exact h, fun h => ⟨_, rfl, h⟩⟩
@[simp] theorem okS_none {P : Out → Prop} : okS none P ↔ False := ⟨fun ⟨_, e, _⟩ => (by cases e), False.elim⟩
@[simp] theorem okM_ok {a : α} {P : α → Rho → Prop} : okM (some (Er.ok a ρ)) P ↔ P a ρ := ⟨fun ⟨_, _, e, h⟩ => by cases e; exact h, fun h => ⟨_, _, rfl, h⟩⟩
@[simp] theorem okM_none {P : α → Rho → Prop} : okM (none : Option (Er α)) P ↔ False := ⟨fun ⟨_, _, e, _⟩ => (by cases e), False.elim⟩
@[simp] theorem okF_some {P : Tr → List Sl → Prop} {t : Tr} {outs : List Sl} : okF (some (.ret t, outs)) P ↔ P t outs := ⟨fun ⟨_, _, e, h⟩ => by cases e; exact h, fun h => ⟨_, _, rfl, h⟩⟩
theorem okM_congr {o : Option (Er α)} {P Q : α → Rho → Prop} (h : ∀ a ρ, P a ρ ↔ Q a ρ) : okM o P ↔ okM o Q := ⟨fun ⟨a, ρ, e, p⟩ => ⟨a, ρ, e, (h a ρ).mp p⟩, fun ⟨a, ρ, e, p⟩ => ⟨a, ρ, e, (h a ρ).mpr p⟩⟩
@[simp] theorem okM_bnd {f : M α} {k : α → M β} {P : β → Rho → Prop} : okM (bnd f k ρ) P ↔ okM (f ρ) fun a ρ1 => okM (k a ρ1) P := by
  unfold bnd
  constructor
  · rintro ⟨b, ρ2, e, h⟩
    cases q : f ρ with
    | none => rw [q] at e; cases e
    | some r =>
      rw [q] at e
      cases r with
      | ok a ρ1 => exact ⟨a, ρ1, rfl, b, ρ2, e, h⟩
      | ex c ρ1 => cases e
  · rintro ⟨a, ρ1, e, b, ρ2, e2, h⟩
    exact ⟨b, ρ2, by rw [e]; exact e2, h⟩
@[simp] theorem okM_ret {a : α} {P : α → Rho → Prop} : okM (ret a ρ) P ↔ P a ρ := okM_ok
@[simp] theorem okS_E {f : M α} {k : α → MS} {P : Out → Prop} (hx : ∀ c ρ, P (.ex c ρ) ↔ False) : okS (sE f k ρ) P ↔ okM (f ρ) fun a ρ1 => okS (k a ρ1) P := by
  unfold sE
  constructor
  · rintro ⟨o, e, h⟩
    cases q : f ρ with
    | none => rw [q] at e; cases e
    | some r =>
      rw [q] at e
      cases r with
      | ok a ρ1 => exact ⟨a, ρ1, rfl, o, e, h⟩
      | ex c ρ1 => cases e; exact ((hx _ _).mp h).elim
  · rintro ⟨a, ρ1, e, o, e2, h⟩
    exact ⟨o, by rw [e]; exact e2, h⟩
theorem okS_E' {f : M α} {k : α → MS} {P : Out → Prop} (h : okM (f ρ) fun a ρ1 => okS (k a ρ1) P) : okS (sE f k ρ) P := by
  obtain ⟨a, ρ1, e, o, e2, h⟩ := h
  exact ⟨o, by unfold sE; rw [e]; exact e2, h⟩
noncomputable def nxt (h : MS) (P : Out → Prop) : Out → Prop
  | .nx ρ1 => okS (h ρ1) P
  | o => P o
@[simp] theorem nxt_nx {h : MS} {P : Out → Prop} : nxt h P (.nx ρ) ↔ okS (h ρ) P := Iff.rfl
@[simp] theorem nxt_rt {h : MS} {P : Out → Prop} {t : Tr} : nxt h P (.rt t ρ) ↔ P (.rt t ρ) := Iff.rfl
@[simp] theorem nxt_bk {h : MS} {P : Out → Prop} : nxt h P (.bk ρ) ↔ P (.bk ρ) := Iff.rfl
@[simp] theorem nxt_ct {h : MS} {P : Out → Prop} : nxt h P (.ct ρ) ↔ P (.ct ρ) := Iff.rfl
@[simp] theorem nxt_ex {h : MS} {P : Out → Prop} {c : Str} : nxt h P (.ex c ρ) ↔ P (.ex c ρ) := Iff.rfl
theorem okS_seq {g h : MS} {P : Out → Prop} : okS (sSeq g h ρ) P ↔ okS (g ρ) (nxt h P) := by
  unfold sSeq
  constructor
  · rintro ⟨o, e, p⟩
    cases q : g ρ with
    | none => rw [q] at e; cases e
    | some r =>
      rw [q] at e
      cases r with
      | nx ρ1 => exact ⟨_, rfl, o, e, p⟩
      | _ => cases e; exact ⟨_, rfl, p⟩
  · rintro ⟨r, q, p⟩
    cases r with
    | nx ρ1 =>
      obtain ⟨o, e, p⟩ := p
      exact ⟨o, by rw [q]; exact e, p⟩
    | _ => exact ⟨_, by rw [q], p⟩
theorem okM_mono {o : Option (Er α)} {P Q : α → Rho → Prop} (h : okM o P) (i : ∀ a ρ, P a ρ → Q a ρ) : okM o Q := let ⟨x, ρ, e, p⟩ := h; ⟨x, ρ, e, i x ρ p⟩
theorem okF_mono {o : Option (FR × List Sl)} {P Q : Tr → List Sl → Prop} (h : okF o P) (i : ∀ a ρ, P a ρ → Q a ρ) : okF o Q := let ⟨x, ρ, e, p⟩ := h; ⟨x, ρ, e, i x ρ p⟩
@[simp] theorem okM_cD {x : PyData} {P : Rv → Rho → Prop} : okM (cD x ρ) P ↔ P (.d x) ρ := okM_ok
theorem okM_bin1 {g : PyData → PyData → Option PyData} {x y : Rv} {P : Rv → Rho → Prop} : okM (bin1 g x y ρ) P ↔ okO (derS ρ x) fun a => okO (derS ρ y) fun b => okO (g a b) fun z => P (.d z) ρ := by
  unfold bin1
  cases derS ρ x <;> cases derS ρ y <;> simp
  rename_i a b
  cases g a b <;> simp
@[simp] theorem okM_cBin {g : PyData → PyData → Option PyData} {fa fb : M Rv} {P : Rv → Rho → Prop} : okM (cBin g fa fb ρ) P ↔ okM (fa ρ) fun x ρ1 => okM (fb ρ1) fun y ρ2 => okO (derS ρ2 x) fun a => okO (derS ρ2 y) fun b => okO (g a b) fun z => P (.d z) ρ2 := by
  unfold cBin
  simp only [okM_bnd, okM_bin1]
theorem okM_binD {g : PyData → PyData → Option Bool} {x y : Rv} {P : Bool → Rho → Prop} : okM (binD g x y ρ) P ↔ okO (der ρ x) fun a => okO (der ρ y) fun b => okO (g a b) fun z => P z ρ := by
  unfold binD
  cases der ρ x <;> cases der ρ y <;> simp
  rename_i a b
  cases g a b <;> simp
@[simp] theorem okM_cCmp {g : PyData → PyData → Option Bool} {fa fb : M Rv} {P : Bool → Rho → Prop} : okM (cCmp g fa fb ρ) P ↔ okM (fa ρ) fun x ρ1 => okM (fb ρ1) fun y ρ2 => okO (der ρ2 x) fun a => okO (der ρ2 y) fun b => okO (g a b) fun z => P z ρ2 := by
  unfold cCmp
  simp only [okM_bnd, okM_binD]
@[simp] theorem okM_cOf {f : M Bool} {P : Rv → Rho → Prop} : okM (cOf f ρ) P ↔ okM (f ρ) fun b ρ1 => P (.d (.bool b)) ρ1 := by
  unfold cOf
  simp only [okM_bnd, okM_ret]
@[simp] theorem okM_chain {g g' : PyData → PyData → Option Bool} {fa fb fc : M Rv} {P : Bool → Rho → Prop} : okM (cChain g g' fa fb fc ρ) P ↔ okM (fa ρ) fun x ρ1 => okM (fb ρ1) fun y ρ2 => okO (der ρ2 x) fun a => okO (der ρ2 y) fun b => okO (g a b) fun k =>
    if k = true then okM (fc ρ2) fun z ρ3 => okO (der ρ3 y) fun b' => okO (der ρ3 z) fun c => okO (g' b' c) fun r => P r ρ3 else P false ρ2 := by
  unfold cChain
  simp only [okM_bnd, okM_binD]
  have e : ∀ (k : Bool) (y : Rv) (ρ2 : Rho), okM ((if k = true then bnd fc fun z => binD g' y z else ret false) ρ2) P ↔ if k = true then okM (fc ρ2) fun z ρ3 => okO (der ρ3 y) fun b' => okO (der ρ3 z) fun c => okO (g' b' c) fun r => P r ρ3 else P false ρ2 := fun k y ρ2 => by
    cases k <;> simp [okM_binD]
  simp only [e]
@[simp] theorem okM_cTest {f : M Rv} {P : Bool → Rho → Prop} : okM (cTest f ρ) P ↔ okM (f ρ) fun x ρ1 => okO (asB ρ1 x) fun b => P b ρ1 := by
  unfold cTest
  rw [okM_bnd]
  refine okM_congr fun x ρ1 => ?_
  cases asB ρ1 x <;> simp
@[simp] theorem asB_d {b : Bool} : asB ρ (.d (.bool b)) = some b := rfl
@[simp] theorem okM_cNot {f : M Bool} {P : Bool → Rho → Prop} : okM (cNot f ρ) P ↔ okM (f ρ) fun b ρ1 => P (!b) ρ1 := by
  unfold cNot
  simp only [okM_bnd, okM_ret]
@[simp] theorem okM_cAnd {f g : M Bool} {P : Bool → Rho → Prop} : okM (cAnd f g ρ) P ↔ okM (f ρ) fun b ρ1 => if b = true then okM (g ρ1) P else P false ρ1 := by
  unfold cAnd
  simp only [okM_bnd]
  have e : ∀ (k : Bool) (ρ2 : Rho), okM ((if k = true then g else ret false) ρ2) P ↔ if k = true then okM (g ρ2) P else P false ρ2 := fun k ρ2 => by cases k <;> simp
  simp only [e]
@[simp] theorem okM_cOr {f g : M Bool} {P : Bool → Rho → Prop} : okM (cOr f g ρ) P ↔ okM (f ρ) fun b ρ1 => if b = true then P true ρ1 else okM (g ρ1) P := by
  unfold cOr
  simp only [okM_bnd]
  have e : ∀ (k : Bool) (ρ2 : Rho), okM ((if k = true then ret true else g) ρ2) P ↔ if k = true then P true ρ2 else okM (g ρ2) P := fun k ρ2 => by cases k <;> simp
  simp only [e]
@[simp] theorem okM_cAndV {f g : M Rv} {P : Rv → Rho → Prop} : okM (cAndV f g ρ) P ↔ okM (f ρ) fun x ρ1 => okO (asB ρ1 x) fun b => if b = true then okM (g ρ1) P else P (.d (.bool false)) ρ1 := by
  unfold cAndV
  simp only [okM_bnd, okM_cTest]
  have e : ∀ (k : Bool) (ρ2 : Rho), okM ((if k = true then g else ret (.d (.bool false))) ρ2) P ↔ if k = true then okM (g ρ2) P else P (.d (.bool false)) ρ2 := fun k ρ2 => by cases k <;> simp
  simp only [e]
@[simp] theorem okM_cOrV {f g : M Rv} {P : Rv → Rho → Prop} : okM (cOrV f g ρ) P ↔ okM (f ρ) fun x ρ1 => okO (asB ρ1 x) fun b => if b = true then P (.d (.bool true)) ρ1 else okM (g ρ1) P := by
  unfold cOrV
  simp only [okM_bnd, okM_cTest]
  have e : ∀ (k : Bool) (ρ2 : Rho), okM ((if k = true then ret (.d (.bool true)) else g) ρ2) P ↔ if k = true then P (.d (.bool true)) ρ2 else okM (g ρ2) P := fun k ρ2 => by cases k <;> simp
  simp only [e]
@[simp] theorem okM_cNotV {f : M Rv} {P : Rv → Rho → Prop} : okM (cNotV f ρ) P ↔ okM (f ρ) fun x ρ1 => okO (asB ρ1 x) fun b => P (.d (.bool (!b))) ρ1 := by
  unfold cNotV
  simp only [okM_bnd, okM_cTest, okM_ret]
@[simp] theorem okM_cIf {c : M Bool} {f g : M α} {P : α → Rho → Prop} : okM (cIf c f g ρ) P ↔ okM (c ρ) fun b ρ1 => if b = true then okM (f ρ1) P else okM (g ρ1) P := by
  unfold cIf
  simp only [okM_bnd]
  have e : ∀ (k : Bool) (ρ2 : Rho), okM ((if k = true then f else g) ρ2) P ↔ if k = true then okM (f ρ2) P else okM (g ρ2) P := fun k ρ2 => by cases k <;> simp
  simp only [e]
@[simp] theorem okM_aNil {P : List Rv → Rho → Prop} : okM (aNil ρ) P ↔ P [] ρ := okM_ok
@[simp] theorem okM_aCons {f : M Rv} {g : M (List Rv)} {P : List Rv → Rho → Prop} : okM (aCons f g ρ) P ↔ okM (f ρ) fun x ρ1 => okM (g ρ1) fun xs ρ2 => P (x :: xs) ρ2 := by
  unfold aCons
  simp only [okM_bnd, okM_ret]
@[simp] theorem okM_mkTup {rs : List Rv} {P : Rv → Rho → Prop} : okM (mkTup rs ρ) P ↔ okO (datas rs) fun ds => small ds.length = true ∧ P (.d (.tuple ds)) ρ := by
  unfold mkTup
  cases datas rs <;> simp
  split <;> simp_all
@[simp] theorem okM_cTup {f : M (List Rv)} {P : Rv → Rho → Prop} : okM (cTup f ρ) P ↔ okM (f ρ) fun rs ρ1 => okO (datas rs) fun ds => small ds.length = true ∧ P (.d (.tuple ds)) ρ1 := by
  unfold cTup
  simp only [okM_bnd, okM_mkTup]
@[simp] theorem okM_mkLst {rs : List Rv} {P : Tr → Rho → Prop} : okM (mkLst rs ρ) P ↔ okO (datas rs) fun ds => small ds.length = true ∧ P (.lst (ds.map .dat)) ρ := by
  unfold mkLst
  cases datas rs <;> simp
  split <;> simp_all
@[simp] theorem okM_nLst {f : M (List Rv)} {P : Tr → Rho → Prop} : okM (nLst f ρ) P ↔ okM (f ρ) fun rs ρ1 => okO (datas rs) fun ds => small ds.length = true ∧ P (.lst (ds.map .dat)) ρ1 := by
  unfold nLst
  simp only [okM_bnd, okM_mkLst]
@[simp] theorem okM_cFrz {f : M Tr} {P : Rv → Rho → Prop} : okM (cFrz f ρ) P ↔ okM (f ρ) fun t ρ1 => okO t.toD fun d => P (.d d) ρ1 := by
  unfold cFrz
  rw [okM_bnd]
  refine okM_congr fun t ρ1 => ?_
  cases t.toD <;> simp
noncomputable def rvd : Rv → Option PyData
  | .d d => some d
  | .o _ => none
@[simp] theorem rvd_d {d : PyData} : rvd (.d d) = some d := rfl
@[simp] theorem okM_nDat {f : M Rv} {P : Tr → Rho → Prop} : okM (nDat f ρ) P ↔ okM (f ρ) fun x ρ1 => okO (rvd x) fun d => P (.dat d) ρ1 := by
  unfold nDat
  rw [okM_bnd]
  refine okM_congr fun x ρ1 => ?_
  cases x <;> simp [rvd]
noncomputable def rvi : Rv → Option Int
  | .d (.int i) => some i
  | _ => none
@[simp] theorem rvi_d {i : Int} : rvi (.d (.int i)) = some i := rfl
@[simp] theorem okM_oNone {P : Option Int → Rho → Prop} : okM (oNone ρ) P ↔ P none ρ := okM_ok
@[simp] theorem okM_oSome {f : M Rv} {P : Option Int → Rho → Prop} : okM (oSome f ρ) P ↔ okM (f ρ) fun x ρ1 => okO (rvi x) fun i => P (some i) ρ1 := by
  unfold oSome
  rw [okM_bnd]
  refine okM_congr fun x ρ1 => ?_
  cases x with
  | o _ => simp [rvi]
  | d d => cases d <;> simp [rvi]
@[simp] theorem okM_cNeg {f : M Rv} {P : Rv → Rho → Prop} : okM (cNeg f ρ) P ↔ okM (f ρ) fun x ρ1 => okO (rvi x) fun i => P (.d (.int (-i))) ρ1 := by
  unfold cNeg
  rw [okM_bnd]
  refine okM_congr fun x ρ1 => ?_
  cases x with
  | o _ => simp [rvi]
  | d d => cases d <;> simp [rvi]
@[simp] theorem okM_cCut {f : M Rv} {fl fh : M (Option Int)} {P : Rv → Rho → Prop} : okM (cCut f fl fh ρ) P ↔ okM (f ρ) fun x ρ1 => okM (fl ρ1) fun lo ρ2 => okM (fh ρ2) fun hi ρ3 => okO (derS ρ3 x) fun d => okO (cutD d lo hi) fun z => P (.d z) ρ3 := by
  unfold cCut
  simp only [okM_bnd]
  have e : ∀ (x : Rv) (lo hi : Option Int) (ρ3 : Rho), okM (cut1 x lo hi ρ3) P ↔ okO (derS ρ3 x) fun d => okO (cutD d lo hi) fun z => P (.d z) ρ3 := fun x lo hi ρ3 => by
    unfold cut1
    cases derS ρ3 x <;> simp
    rename_i d
    cases cutD d lo hi <;> simp
  simp only [e]
@[simp] theorem okM_cCall {g : List PyData → Option PyData} {f : M (List Rv)} {P : Rv → Rho → Prop} : okM (cCall g f ρ) P ↔ okM (f ρ) fun rs ρ1 => okO (derSs ρ1 rs) fun ds => okO (g ds) fun z => P (.d z) ρ1 := by
  unfold cCall
  simp only [okM_bnd]
  have e : ∀ (rs : List Rv) (ρ3 : Rho), okM (call1 g rs ρ3) P ↔ okO (derSs ρ3 rs) fun ds => okO (g ds) fun z => P (.d z) ρ3 := fun rs ρ3 => by
    unfold call1
    cases derSs ρ3 rs <;> simp
    rename_i d
    cases g d <;> simp
  simp only [e]
@[simp] theorem okM_cIsi {B : BT} {f : M Rv} {P : Rv → Rho → Prop} : okM (cIsi B f ρ) P ↔ okM (f ρ) fun x ρ1 => okO (der ρ1 x) fun d => okO (isiD B d) fun b => P (.d (.bool b)) ρ1 := by
  unfold cIsi
  rw [okM_bnd]
  refine okM_congr fun x ρ1 => ?_
  cases der ρ1 x with
  | none => simp
  | some d => cases h : isiD B d <;> simp [h]
noncomputable def rvs : Rv → Option Str
  | .d (.str i) => some i
  | _ => none
@[simp] theorem rvs_d {i : Str} : rvs (.d (.str i)) = some i := rfl
@[simp] theorem okM_cTab {tb : List (Str × PyData)} {f : M Rv} {P : Rv → Rho → Prop} : okM (cTab tb f ρ) P ↔ okM (f ρ) fun x ρ1 => okO (rvs x) fun z => okO (tb.lookup z) fun d => P (.d d) ρ1 := by
  unfold cTab
  simp only [okM_bnd]
  have e : ∀ (x : Rv) (ρ1 : Rho), okM (tabD tb x ρ1) P ↔ okO (rvs x) fun z => okO (tb.lookup z) fun d => P (.d d) ρ1 := fun x ρ1 => by
    unfold tabD
    cases x with
    | o _ => simp [rvs]
    | d d =>
      cases d <;> simp [rvs]
      rename_i z
      cases tb.lookup z <;> simp
  simp only [e]
@[simp] theorem okM_callN {Ts : List Nat} {m : Nat} {F : Fn} {rs : List Rv} {P : Tr → Rho → Prop} : okM (callN Ts m F rs ρ) P ↔ okO (argSls ρ rs) fun args => (rs.length = m ∧ oneEach rs = true ∧ allIn Ts rs = true) ∧ okF (F args) fun t outs => backOk args (mrg args outs) = true ∧ P t (wb ρ rs (mrg args outs)) := by
  unfold callN
  cases argSls ρ rs with
  | none => simp
  | some args =>
    simp only [okO_some]
    constructor
    · rintro ⟨a, ρ1, e, h⟩
      split at e
      · rename_i hc
        simp only [Bool.and_eq_true, decide_eq_true_eq] at hc
        refine ⟨hc, ?_⟩
        split at e
        · rename_i t outs hf
          split at e
          · rename_i hb
            cases e
            exact ⟨_, _, hf, hb, h⟩
          · cases e
        · cases e
      · cases e
    · rintro ⟨hc, t, outs, hf, hb, h⟩
      refine ⟨t, _, ?_, h⟩
      rw [if_pos (by simp only [Bool.and_eq_true, decide_eq_true_eq]; exact hc), hf]
      simp only [hb, if_true]
@[simp] theorem okM_nCall {Ts : List Nat} {m : Nat} {F : Fn} {f : M (List Rv)} {P : Tr → Rho → Prop} : okM (nCall Ts m F f ρ) P ↔ okM (f ρ) fun rs ρ1 => okM (callN Ts m F rs ρ1) P := by
  unfold nCall
  simp only [okM_bnd]
noncomputable def rvx : Rv → Option (List PyData)
  | .d d => itemsOf d
  | .o _ => none
@[simp] theorem rvx_l {xs : List PyData} : rvx (.d (.list xs)) = some xs := rfl
@[simp] theorem rvx_t {xs : List PyData} : rvx (.d (.tuple xs)) = some xs := rfl
@[simp] theorem okM_iSeq {f : M Rv} {P : List PyData → Rho → Prop} : okM (iSeq f ρ) P ↔ okM (f ρ) fun x ρ1 => okO (rvx x) fun xs => P xs ρ1 := by
  unfold iSeq
  rw [okM_bnd]
  refine okM_congr fun x ρ1 => ?_
  cases x with
  | o _ => simp [rvx]
  | d d => cases h : itemsOf d <;> simp [rvx, h]
@[simp] theorem okS_nil {P : Out → Prop} : okS (sNil ρ) P ↔ P (.nx ρ) := okS_some
@[simp] theorem okS_retN {P : Out → Prop} : okS (sRetN ρ) P ↔ P (.rt (.dat .none) ρ) := okS_some
theorem okS_ret {f : M Tr} {P : Out → Prop} (h : okM (f ρ) fun t ρ1 => P (.rt t ρ1)) : okS (sRet f ρ) P := okS_E' (okM_mono h fun a ρ1 p => okS_some.mpr p)
theorem okS_putD {i : Nat} {d : PyData} {P : Out → Prop} : okS (putD i d ρ) P ↔ okR (setSl ρ i (.val d)) fun ρ1 => P (.nx ρ1) := by
  unfold putD
  cases setSl ρ i (.val d) <;> simp
theorem okS_set {i : Nat} {f : M Rv} {P : Out → Prop} (h : okM (f ρ) fun x ρ1 => okO (rvd x) fun d => okR (setSl ρ1 i (.val d)) fun ρ2 => P (.nx ρ2)) : okS (sSet i f ρ) P := by
  refine okS_E' (okM_mono h fun x ρ1 p => ?_)
  cases x with
  | d d =>
    simp only [rvd_d, okO_some] at p
    exact okS_putD.mpr p
  | o j => simp [rvd] at p
theorem okS_setN {i : Nat} {f : M Tr} {P : Out → Prop} (h : okM (f ρ) fun t ρ1 => okR (setSl ρ1 i (.own .free t)) fun ρ2 => P (.nx ρ2)) : okS (sSetN i f ρ) P := by
  refine okS_E' (okM_mono h fun t ρ1 p => ?_)
  obtain ⟨ρ2, e, p⟩ := p
  exact ⟨_, by rw [e]; rfl, p⟩
theorem okS_if {c : M Bool} {g h : MS} {P : Out → Prop} (k : okM (c ρ) fun b ρ1 => if b = true then okS (g ρ1) P else okS (h ρ1) P) : okS (sIf c g h ρ) P := by
  refine okS_E' (okM_mono k fun b ρ1 p => ?_)
  cases b <;> simpa using p
noncomputable def turn (J : Rho → Prop) (P : Out → Prop) : Out → Prop
  | .nx ρ => J ρ
  | .ct ρ => J ρ
  | .bk ρ => P (.nx ρ)
  | .rt t ρ => P (.rt t ρ)
  | .ex c ρ => P (.ex c ρ)
@[simp] theorem turn_nx {J : Rho → Prop} {P : Out → Prop} : turn J P (.nx ρ) ↔ J ρ := Iff.rfl
@[simp] theorem turn_ct {J : Rho → Prop} {P : Out → Prop} : turn J P (.ct ρ) ↔ J ρ := Iff.rfl
@[simp] theorem turn_bk {J : Rho → Prop} {P : Out → Prop} : turn J P (.bk ρ) ↔ P (.nx ρ) := Iff.rfl
@[simp] theorem turn_rt {J : Rho → Prop} {P : Out → Prop} {t : Tr} : turn J P (.rt t ρ) ↔ P (.rt t ρ) := Iff.rfl
theorem okF_run {n : Nat} {g : MS} {args : List Sl} {P : Tr → List Sl → Prop} (h : okS (g (entry n args)) fun o => match o with
    | .nx ρ' => P (.dat .none) (ρ'.take args.length)
    | .rt t ρ' => P t (ρ'.take args.length)
    | _ => False) : okF (runF n g args) P := by
  obtain ⟨o, e, p⟩ := h
  unfold runF
  rw [e]
  cases o with
  | nx ρ' => exact ⟨_, _, rfl, p⟩
  | rt t ρ' => exact ⟨_, _, rfl, p⟩
  | bk ρ' => exact p.elim
  | ct ρ' => exact p.elim
  | ex c ρ' => exact p.elim
end
end VL

end

section
set_option Elab.async false
set_option linter.all false
set_option maxRecDepth 100000
namespace VL
open PySem PySem.Spec PyProof.Rows L2
section
variable {α β : Type} {ρ : Rho} {P : Out → Prop}
theorem okO_map {f : α → β} {o : Option α} {Q : β → Prop} : okO (o.map f) Q ↔ okO o fun a => Q (f a) := by cases o <;> simp
@[simp] theorem okO_ite {c : Prop} [Decidable c] {a : α} {Q : α → Prop} : okO (if c then some a else none) Q ↔ c ∧ Q a := by
  by_cases h : c <;> simp [h]
@[simp] theorem okO_iteO {c : Prop} [Decidable c] {a : Option α} {Q : α → Prop} : okO (if c then a else none) Q ↔ c ∧ okO a Q := by
  by_cases h : c <;> simp [h]
theorem varS {i : Nat} : cVar i ρ = match ρ[i]? with
  | some (.val d) => some (.ok (.d d) ρ)
  | some (.own _ (.dat d)) => some (.ok (.d d) ρ)
  | some (.own _ _) => some (.ok (.o i) ρ)
  | _ => none := rfl
noncomputable def rdSl (i : Nat) (s : Option Sl) : Option Rv := match s with
  | some (.val d) => some (Rv.d d)
  | some (.own _ (.dat d)) => some (.d d)
  | some (.own _ _) => some (.o i)
  | _ => none
@[simp] theorem rdSl_val {i : Nat} {d : PyData} : rdSl i (some (.val d)) = some (.d d) := rfl
@[simp] theorem rdSl_dat {i : Nat} {m : Md} {d : PyData} : rdSl i (some (.own m (.dat d))) = some (.d d) := rfl
@[simp] theorem rdSl_lst {i : Nat} {m : Md} {ts : List Tr} : rdSl i (some (.own m (.lst ts))) = some (.o i) := rfl
@[simp] theorem rdSl_tup {i : Nat} {m : Md} {ts : List Tr} : rdSl i (some (.own m (.tup ts))) = some (.o i) := rfl
@[simp] theorem rdSl_dk {i : Nat} {m : Md} {ts : List (Key × Tr)} : rdSl i (some (.own m (.dk ts))) = some (.o i) := rfl
@[simp] theorem rdSl_dt {i : Nat} {m : Md} {ts : List (List Key × Tr)} : rdSl i (some (.own m (.dt ts))) = some (.o i) := rfl
@[simp] theorem okM_var_val {i : Nat} {Q : Rv → Rho → Prop} : okM (cVar i ρ) Q ↔ okO (rdSl i ρ[i]?) fun r => Q r ρ := by
  rw [varS]
  unfold rdSl
  split <;> simp
@[simp] theorem derS_d {d : PyData} : derS ρ (.d d) = some d := rfl
@[simp] theorem der_d {d : PyData} : der ρ (.d d) = some d := rfl
noncomputable def dsSl (s : Option Sl) : Option PyData := match s with
    | some (.own _ (.lst ts)) => (flat ts).map .list
    | _ => none
noncomputable def drSl (s : Option Sl) : Option PyData := match s with
    | some (.own _ t) => t.toD
    | _ => none
@[simp] theorem dsSl_lst {m : Md} {ts : List Tr} : dsSl (some (.own m (.lst ts))) = (flat ts).map .list := rfl
@[simp] theorem drSl_own {m : Md} {t : Tr} : drSl (some (.own m t)) = t.toD := rfl
@[simp] theorem derS_o {i : Nat} : derS ρ (.o i) = dsSl ρ[i]? := rfl
@[simp] theorem der_o {i : Nat} : der ρ (.o i) = drSl ρ[i]? := rfl
@[simp] theorem flat_nil : flat [] = some [] := rfl
@[simp] theorem flat_cons {d : PyData} {ts : List Tr} : flat (.dat d :: ts) = (flat ts).map (d :: ·) := rfl
@[simp] theorem flat_map {ds : List PyData} : flat (ds.map .dat) = some ds := flat_dat ds
@[simp] theorem toD_dat {d : PyData} : (Tr.dat d).toD = some d := by simp [Tr.toD]
@[simp] theorem toDs_map : ∀ {ds : List PyData}, Tr.toDs (ds.map .dat) = some ds
  | [] => by simp [Tr.toDs]
  | d :: ds => by simp [Tr.toDs, toDs_map (ds := ds)]
@[simp] theorem toDs_nil : Tr.toDs [] = some [] := by simp [Tr.toDs]
@[simp] theorem toDs_cons {d : PyData} {ts : List Tr} : Tr.toDs (.dat d :: ts) = (Tr.toDs ts).map (d :: ·) := by
  simp only [Tr.toDs, toD_dat]
  cases Tr.toDs ts <;> simp
@[simp] theorem toD_lst {ts : List Tr} : (Tr.lst ts).toD = (Tr.toDs ts).map .list := by simp [Tr.toD]
@[simp] theorem toD_tup {ts : List Tr} : (Tr.tup ts).toD = (Tr.toDs ts).map .tuple := by simp [Tr.toD]
@[simp] theorem asB_b {b : Bool} {r : Rv} (h : r = .d (.bool b)) : asB ρ r = some b := by rw [h]; rfl
@[simp] theorem datas_nil : datas [] = some [] := rfl
@[simp] theorem datas_cons {d : PyData} {rs : List Rv} : datas (.d d :: rs) = (datas rs).map (d :: ·) := rfl
theorem small_of {n : Nat} (h : n ≤ 16777216) : small n = true := small_iff.mpr (by rw [sizeLine_eq]; exact h)
@[simp] theorem small_lit {n : Nat} (h : n ≤ 16777216) : small n = true := small_of h
theorem lt_lim {i : Int} (h : -18446744073709551616 ≤ i) (h2 : i ≤ 18446744073709551616) : i.natAbs < lim := by
  have e : 18446744073709551616 < lim := by decide +kernel
  omega
@[simp] theorem addD_i {i j : Int} : addD (.int i) (.int j) = some (.int (i + j)) := rfl
@[simp] theorem subtD_i {i j : Int} : subtD (.int i) (.int j) = some (.int (i - j)) := rfl
theorem mulD_i {i j : Int} : mulD (.int i) (.int j) = if i.natAbs < lim ∧ j.natAbs < lim then some (.int (i * j)) else none := rfl
@[simp] theorem okO_mulD {i j : Int} {Q : PyData → Prop} : okO (mulD (.int i) (.int j)) Q ↔ (i.natAbs < lim ∧ j.natAbs < lim) ∧ Q (.int (i * j)) := by rw [mulD_i, okO_ite]
@[simp] theorem okO_modD {i j : Int} {Q : PyData → Prop} : okO (modD (.int i) (.int j)) Q ↔ 0 < j ∧ Q (.int (i % j)) := by
  show okO (if 0 < j then some (.int (i % j)) else none) Q ↔ _
  rw [okO_ite]
@[simp] theorem okO_fdivD {i j : Int} {Q : PyData → Prop} : okO (fdivD (.int i) (.int j)) Q ↔ (0 < j ∧ j.natAbs < lim) ∧ Q (.int (i / j)) := by
  show okO (if 0 < j ∧ j.natAbs < lim then some (.int (i / j)) else none) Q ↔ _
  rw [okO_ite]
@[simp] theorem okO_powD {i j : Int} {Q : PyData → Prop} : okO (powD (.int i) (.int j)) Q ↔ (0 ≤ j ∧ j ≤ 1000 ∧ i.natAbs < 1000000) ∧ Q (.int (i ^ j.toNat)) := by
  show okO (if 0 ≤ j ∧ j ≤ 1000 ∧ i.natAbs < 1000000 then some (.int (i ^ j.toNat)) else none) Q ↔ _
  rw [okO_ite]
@[simp] theorem icmp_i {p : Int → Int → Bool} {i j : Int} : icmp p (.int i) (.int j) = some (p i j) := rfl
@[simp] theorem addD_t {xs ys : List PyData} {Q : PyData → Prop} : okO (addD (.tuple xs) (.tuple ys)) Q ↔ small (xs.length + ys.length) = true ∧ Q (.tuple (xs ++ ys)) := by
  show okO (if small (xs.length + ys.length) then some (.tuple (xs ++ ys)) else none) Q ↔ _
  rw [okO_ite]
@[simp] theorem addD_l {xs ys : List PyData} {Q : PyData → Prop} : okO (addD (.list xs) (.list ys)) Q ↔ small (xs.length + ys.length) = true ∧ Q (.list (xs ++ ys)) := by
  show okO (if small (xs.length + ys.length) then some (.list (xs ++ ys)) else none) Q ↔ _
  rw [okO_ite]
@[simp] theorem subD_l {xs : List PyData} {i : Int} : subD (.list xs) (.int i) = atI xs i := rfl
@[simp] theorem subD_t {xs : List PyData} {i : Int} : subD (.tuple xs) (.int i) = atI xs i := rfl
@[simp] theorem subD_s {xs : List Int} {i : Int} : subD (scrD xs) (.int i) = (atI xs i).map .int := by
  show (atI (xs.map fun i => (PyData.int i, PyData.none)) i).map (·.1) = _
  rw [atI_map, Option.map_map]
  rfl
@[simp] theorem cutD_l {xs : List PyData} {lo hi : Option Int} : cutD (.list xs) lo hi = some (.list (cutL xs lo hi)) := rfl
@[simp] theorem cutD_t {xs : List PyData} {lo hi : Option Int} : cutD (.tuple xs) lo hi = some (.tuple (cutL xs lo hi)) := rfl
@[simp] theorem derSs_nil : derSs ρ [] = some [] := rfl
@[simp] theorem derSs_cons {r : Rv} {rs : List Rv} : derSs ρ (r :: rs) = match derS ρ r, derSs ρ rs with
  | some d, some ds => some (d :: ds)
  | _, _ => none := rfl
@[simp] theorem lenD_l {xs : List PyData} : lenD [.list xs] = some (.int xs.length) := rfl
@[simp] theorem lenD_t {xs : List PyData} : lenD [.tuple xs] = some (.int xs.length) := rfl
@[simp] theorem lenD_s {xs : List Int} : lenD [scrD xs] = some (.int xs.length) := by
  show some (PyData.int (xs.map fun i => (PyData.int i, PyData.none)).length) = _
  rw [List.length_map]
@[simp] theorem absD_i {i : Int} : absD [.int i] = some (.int (if i < 0 then -i else i)) := rfl
@[simp] theorem min2D_i {i j : Int} : min2D [.int i, .int j] = some (.int (if j < i then j else i)) := rfl
@[simp] theorem max2D_i {i j : Int} : max2D [.int i, .int j] = some (.int (if j > i then j else i)) := rfl
@[simp] theorem intD_i {i : Int} : intD [.int i] = some (.int i) := rfl
@[simp] theorem intD_b {b : Bool} : intD [.bool b] = some (.int (if b then 1 else 0)) := rfl
@[simp] theorem tupleD_l {xs : List PyData} : tupleD [.list xs] = some (.tuple xs) := rfl
@[simp] theorem tupleD_t {xs : List PyData} : tupleD [.tuple xs] = some (.tuple xs) := rfl
@[simp] theorem listD_l {xs : List PyData} : listD [.list xs] = some (.list xs) := rfl
@[simp] theorem listD_t {xs : List PyData} : listD [.tuple xs] = some (.list xs) := rfl
@[simp] theorem pinS_val {d : PyData} : pinS (.val d) = .val d := rfl
@[simp] theorem pinS_no : pinS .no = .no := rfl
@[simp] theorem pinS_free {t : Tr} : pinS (.own .free t) = .own .pin t := rfl
@[simp] theorem pinS_pin {t : Tr} : pinS (.own .pin t) = .own .pin t := rfl
@[simp] theorem pinS_lock {t : Tr} : pinS (.own .lock t) = .own .lock t := rfl
@[simp] theorem arg_free : Md.arg .free = .free := rfl
@[simp] theorem arg_pin : Md.arg .pin = .pin := rfl
@[simp] theorem arg_lock : Md.arg .lock = .lock := rfl
@[simp] theorem arg_bor {p : List Nat} : Md.arg (.bor p) = .lock := rfl
@[simp] theorem unb_free : Md.unb .free = .free := rfl
@[simp] theorem unb_pin : Md.unb .pin = .pin := rfl
@[simp] theorem unb_lock : Md.unb .lock = .lock := rfl
@[simp] theorem unb_bor {p : List Nat} : Md.unb (.bor p) = .pin := rfl
noncomputable def Md.ow : Md → Bool
  | .free => true
  | .pin => true
  | _ => false
@[simp] theorem ow_free : Md.ow .free = true := rfl
@[simp] theorem ow_pin : Md.ow .pin = true := rfl
theorem ow_arg : ∀ {m : Md}, m.ow = true → m.arg = m
  | .free, _ => rfl
  | .pin, _ => rfl
@[simp] theorem argSls_nil : argSls ρ [] = some [] := rfl
@[simp] theorem argSls_d {d : PyData} {rs : List Rv} : argSls ρ (.d d :: rs) = (argSls ρ rs).map (.val d :: ·) := by
  simp only [argSls, argSl]
  cases argSls ρ rs <;> rfl
@[simp] theorem argSls_o {i : Nat} {rs : List Rv} : argSls ρ (.o i :: rs) = match ρ[i]? with
    | some (.own m t) => (argSls ρ rs).map (.own m.arg t :: ·)
    | _ => none := by
  simp only [argSls, argSl]
  cases h : ρ[i]? with
  | none => rfl
  | some s => cases s <;> (try rfl); cases argSls ρ rs <;> rfl
@[simp] theorem oneEach_nil : oneEach [] = true := rfl
@[simp] theorem oneEach_d {d : PyData} {rs : List Rv} : oneEach (.d d :: rs) = oneEach rs := rfl
@[simp] theorem oneEach_o {j : Nat} {rs : List Rv} : oneEach (.o j :: rs) = ((posOf rs j).isNone && oneEach rs) := rfl
@[simp] theorem posOf_nil {i : Nat} : posOf [] i = none := rfl
@[simp] theorem posOf_d {d : PyData} {rs : List Rv} {i : Nat} : posOf (.d d :: rs) i = (posOf rs i).map (· + 1) := rfl
@[simp] theorem posOf_o {j : Nat} {rs : List Rv} {i : Nat} : posOf (.o j :: rs) i = if j = i then some 0 else (posOf rs i).map (· + 1) := rfl
@[simp] theorem allIn_nil {Ts : List Nat} : allIn Ts [] = true := rfl
@[simp] theorem allIn_d {Ts : List Nat} {d : PyData} {rs : List Rv} : allIn Ts (.d d :: rs) = allIn Ts rs := rfl
@[simp] theorem allIn_o {Ts : List Nat} {j : Nat} {rs : List Rv} : allIn Ts (.o j :: rs) = (Ts.contains j && allIn Ts rs) := rfl
@[simp] theorem mrg_nil {os : List Sl} : mrg [] os = [] := rfl
@[simp] theorem mrg_val {d : PyData} {as os : List Sl} : mrg (.val d :: as) os = .val d :: mrg as os.tail := rfl
@[simp] theorem mrg_own {m m' : Md} {t t' : Tr} {as os : List Sl} : mrg (.own m t :: as) (.own m' t' :: os) = .own m'.unb t' :: mrg as os := rfl
@[simp] theorem backOk_nil {os : List Sl} : backOk [] os = true := rfl
@[simp] theorem backOk_own {m m' : Md} {t t' : Tr} {as os : List Sl} : backOk (.own m t :: as) (.own m' t' :: os) = backOk as os := rfl
@[simp] theorem backOk_val {d : PyData} {s : Sl} {as os : List Sl} : backOk (.val d :: as) (s :: os) = backOk as os := rfl
@[simp] theorem wb_eq {rs : List Rv} {os : List Sl} : wb ρ rs os = wbGo rs os 0 ρ := rfl
@[simp] theorem wbGo_nil {rs : List Rv} {os : List Sl} {i : Nat} : wbGo rs os i [] = [] := rfl
@[simp] theorem wbGo_cons {rs : List Rv} {os : List Sl} {i : Nat} {s : Sl} : wbGo rs os i (s :: ρ) = (match posOf rs i with
    | some k => wb1 s os[k]?
    | none => s) :: wbGo rs os (i + 1) ρ := rfl
@[simp] theorem wb1_own {m m' : Md} {t t' : Tr} : wb1 (.own m t) (some (.own m' t')) = .own m t' := rfl
noncomputable def frB : Option Sl → Bool
  | some (.own .pin _) => false
  | some (.own .lock _) => false
  | some (.own (.bor _) _) => false
  | some _ => true
  | none => false
@[simp] theorem frB_al {i : Nat} {p : List Nat} : frB (some (.al i p)) = true := rfl
@[simp] theorem frB_bor {p : List Nat} {t : Tr} : frB (some (.own (.bor p) t)) = false := rfl
@[simp] theorem frB_no : frB (some .no) = true := rfl
@[simp] theorem frB_val {d : PyData} : frB (some (.val d)) = true := rfl
@[simp] theorem frB_free {t : Tr} : frB (some (.own .free t)) = true := rfl
@[simp] theorem frB_pin {t : Tr} : frB (some (.own .pin t)) = false := rfl
@[simp] theorem frB_lock {t : Tr} : frB (some (.own .lock t)) = false := rfl
@[simp] theorem setSl_eq {i : Nat} {s : Sl} : setSl ρ i s = if frB ρ[i]? = true then some (ρ.set i s) else none := by
  unfold setSl
  cases h : ρ[i]? with
  | none => rfl
  | some x =>
    cases x with
    | no => rfl
    | al _ _ => rfl
    | val d => rfl
    | own m t => cases m <;> rfl
@[simp] theorem okR_ite {c : Prop} [Decidable c] {a : Rho} {Q : Rho → Prop} : okR (if c then some a else none) Q ↔ c ∧ Q a := by
  by_cases h : c <;> simp [h]
@[simp] theorem gN_eq {i : Nat} {d : PyData} : gN i d ρ = setSl ρ i (.val d) := rfl
@[simp] theorem gT_eq {n : Nat} {Gs : MGs} {ds : List PyData} : gT n Gs (.tuple ds) ρ = if ds.length = n then Gs ds ρ else none := rfl
@[simp] theorem gsN_eq : gsN [] ρ = some ρ := rfl
@[simp] theorem gsC_eq {G : MG} {Gs : MGs} {d : PyData} {r : List PyData} : gsC G Gs (d :: r) ρ = match G d ρ with
    | some ρ1 => Gs r ρ1
    | none => none := rfl
@[simp] theorem okM_pVar {i : Nat} {Q : Nat × List Nat → Rho → Prop} : okM (pVar i ρ) Q ↔ okO (match ρ[i]? with
  | some (.own _ _) => some (i, ([] : List Nat))
  | _ => none) fun r => Q r ρ := by
  unfold pVar
  cases h : ρ[i]? with
  | none => simp
  | some s => cases s <;> simp
@[simp] theorem treeAt_eq {i : Nat} {p : List Nat} : treeAt ρ (i, p) = match ρ[i]? with
  | some (.own _ t) => t.at p
  | _ => none := rfl
@[simp] theorem at_nil {t : Tr} : t.at [] = some t := by cases t <;> rfl
@[simp] theorem at_cons {t : Tr} {j : Nat} {p : List Nat} : t.at (j :: p) = match (kids t)[j]? with
    | some k => k.at p
    | none => none := by cases t <;> rfl
@[simp] theorem put_nil {t t' : Tr} : t.put [] t' = t' := by cases t <;> rfl
@[simp] theorem put_cons {t t' : Tr} {j : Nat} {p : List Nat} : t.put (j :: p) t' = match (kids t)[j]? with
    | some k => setKid t j (k.put p t')
    | none => t := by cases t <;> rfl
@[simp] theorem kids_lst {ts : List Tr} : kids (.lst ts) = ts := rfl
@[simp] theorem kids_tup {ts : List Tr} : kids (.tup ts) = ts := rfl
@[simp] theorem setKid_lst {ts : List Tr} {j : Nat} {t : Tr} : setKid (.lst ts) j t = .lst (ts.set j t) := rfl
@[simp] theorem modeOk_eq {i : Nat} : modeOk ρ i = match ρ[i]? with
  | some (.own m _) => m.ow
  | _ => false := by
  unfold modeOk
  cases ρ[i]? with
  | none => rfl
  | some s => cases s with
    | own m t => cases m <;> rfl
    | _ => rfl
@[simp] theorem putAt_eq {i : Nat} {p : List Nat} {t' : Tr} : putAt ρ (i, p) t' = match ρ[i]? with
  | some (.own m t) => ρ.set i (.own m (t.put p t'))
  | _ => ρ := rfl
@[simp] theorem isLst_l {ts : List Tr} : isLst (some (.lst ts)) = true := rfl
@[simp] theorem okM_cLeaf {f : M (Nat × List Nat)} {Q : Rv → Rho → Prop} : okM (cLeaf f ρ) Q ↔ okM (f ρ) fun r ρ1 => okO (match treeAt ρ1 r with
  | some (.dat d) => some (Rv.d d)
  | _ => none) fun x => Q x ρ1 := by
  unfold cLeaf
  rw [okM_bnd]
  refine okM_congr fun r ρ1 => ?_
  split <;> simp_all
@[simp] theorem okM_cRev {f : M Rv} {Q : Rv → Rho → Prop} : okM (cRev f ρ) Q ↔ okM (f ρ) fun x ρ1 => okO (match x with
  | .d (.tuple ds) => some (Rv.d (.tuple ds.reverse))
  | _ => none) fun y => Q y ρ1 := by
  unfold cRev
  rw [okM_bnd]
  refine okM_congr fun x ρ1 => ?_
  unfold rev1
  split <;> simp_all
@[simp] theorem okM_cCnt {fo fe : M Rv} {Q : Rv → Rho → Prop} : okM (cCnt fo fe ρ) Q ↔ okM (fo ρ) fun x ρ1 => okO (match x with
  | .d (.list ds) => some ds
  | _ => none) fun ds => okM (fe ρ1) fun y ρ2 => okO (rvd y) fun e => (flatD e && ds.all flatD) = true ∧ Q (.d (.int (ds.countP (fun z => PyData.eqv z e) : Nat))) ρ2 := by
  unfold cCnt
  rw [okM_bnd]
  refine okM_congr fun x ρ1 => ?_
  split
  · rename_i ds
    simp only [okO_some]
    rw [okM_bnd]
    refine okM_congr fun y ρ2 => ?_
    unfold cCnt1
    cases y with
    | o i => simp [rvd]
    | d e =>
      simp only [rvd_d, okO_some]
      by_cases h : (flatD e && ds.all flatD) = true
      · rw [if_pos h]
        simp [h]
      · rw [if_neg h]
        simp [h]
  · simp_all
@[simp] theorem okM_cDIn {neg : Bool} {fk : M Rv} {f : M (Nat × List Nat)} {Q : Bool → Rho → Prop} : okM (cDIn neg fk f ρ) Q ↔ okM (fk ρ) fun y ρ1 => okM (f ρ1) fun r ρ2 => okO (rvd y) fun d => okO (treeAt ρ2 r) fun t => okO (dictAt t d) fun z => Q (if neg then !z.isSome else z.isSome) ρ2 := by
  unfold cDIn
  rw [okM_bnd]
  refine okM_congr fun y ρ1 => ?_
  rw [okM_bnd]
  refine okM_congr fun r ρ2 => ?_
  unfold dIn1
  cases y with
  | o i => simp [rvd]
  | d d =>
    cases h : treeAt ρ2 r with
    | none => simp
    | some t =>
      simp only [rvd_d, okO_some]
      cases h2 : dictAt t d <;> simp
@[simp] theorem okM_cDGet {T2 : List Nat} {f : M (Nat × List Nat)} {fk : M Rv} {Q : Rv → Rho → Prop} : okM (cDGet T2 f fk ρ) Q ↔ okM (f ρ) fun r ρ1 => okM (fk ρ1) fun y ρ2 => T2.contains r.1 = false ∧ okO (rvd y) fun d => okO (treeAt ρ2 r) fun t => okO (dictAt t d) fun z => okO z fun z => Q (.d z) ρ2 := by
  unfold cDGet
  rw [okM_bnd]
  refine okM_congr fun r ρ1 => ?_
  rw [okM_bnd]
  refine okM_congr fun y ρ2 => ?_
  unfold dGet1
  by_cases hc : T2.contains r.1 = true
  · rw [if_pos hc, hc]
    simp
  · have hc' : T2.contains r.1 = false := by simpa using hc
    rw [if_neg hc]
    simp only [hc', true_and]
    cases y with
    | o i => simp [rvd]
    | d d =>
      cases h : treeAt ρ2 r with
      | none => simp
      | some t =>
        simp only [rvd_d, okO_some]
        cases h2 : dictAt t d with
        | none => simp
        | some z => cases z <;> simp
@[simp] theorem okM_cDGet2 {T2 : List Nat} {f : M (Nat × List Nat)} {fk fx : M Rv} {Q : Rv → Rho → Prop} : okM (cDGet2 T2 f fk fx ρ) Q ↔ okM (f ρ) fun r ρ1 => isDk (treeAt ρ1 r) = true ∧ okM (fk ρ1) fun y ρ2 => okM (fx ρ2) fun x ρ3 => T2.contains r.1 = false ∧ okO (rvd y) fun d => okO (rvd x) fun u => okO (treeAt ρ3 r) fun t => okO (dictAt t d) fun z => Q (.d (z.getD u)) ρ3 := by
  unfold cDGet2
  rw [okM_bnd]
  refine okM_congr fun r ρ1 => ?_
  by_cases hd : isDk (treeAt ρ1 r) = true
  · rw [if_pos hd]
    simp only [hd, true_and]
    rw [okM_bnd]
    refine okM_congr fun y ρ2 => ?_
    rw [okM_bnd]
    refine okM_congr fun x ρ3 => ?_
    unfold dGet2
    by_cases hc : T2.contains r.1 = true
    · rw [if_pos hc, hc]
      simp
    · have hc' : T2.contains r.1 = false := by simpa using hc
      rw [if_neg hc]
      simp only [hc', true_and]
      cases y with
      | o i => simp [rvd]
      | d d =>
        cases x with
        | o i => simp [rvd]
        | d u =>
          cases h : treeAt ρ3 r with
          | none => simp
          | some t =>
            simp only [rvd_d, okO_some]
            cases h2 : dictAt t d <;> simp
  · rw [if_neg hd]
    simp [hd]
@[simp] theorem okM_nNew {t : Tr} {Q : Tr → Rho → Prop} : okM (nNew t ρ) Q ↔ Q t ρ := okM_ok
theorem okS_setIx {T2 : List Nat} {fe fi : M Rv} {f : M (Nat × List Nat)} (h : okM (fe ρ) fun x ρ1 => okO (rvd x) fun d => okM (f ρ1) fun r ρ2 => okM (fi ρ2) fun y ρ3 => (T2.contains r.1 = false ∧ modeOk ρ3 r.1 = true) ∧ okO (rvi y) fun n => ∃ ts, treeAt ρ3 r = some (.lst ts) ∧ okO (ixN ts.length n) fun j => P (.nx (putAt ρ3 r (.lst (ts.set j (.dat d)))))) : okS (sSetIx T2 fe f fi ρ) P := by
  refine okS_E' (okM_mono h fun x ρ1 p => ?_)
  cases x with
  | o i => simp [rvd] at p
  | d d =>
    simp only [rvd_d, okO_some] at p
    refine okS_E' (okM_mono p fun r ρ2 p => ?_)
    refine okS_E' (okM_mono p fun y ρ3 p => ?_)
    obtain ⟨⟨p1, p2⟩, n, hn, ts, p3, j, p4, p5⟩ := p
    unfold setIx1
    simp only [p1, p2, Bool.not_true, Bool.or_false, Bool.false_eq_true, if_false]
    rw [p3]
    have hy : y = .d (.int n) := by
      cases y with
      | o _ => cases hn
      | d y => cases y <;> cases hn; rfl
    subst hy
    simp only [p4]
    exact okS_some.mpr p5
@[simp] theorem okS_retV {i : Nat} : okS (sRetV i ρ) P ↔ okO (match ρ[i]? with
  | some (.val d) => some (Out.rt (.dat d) ρ)
  | some (.own .free t) => some (.rt t (ρ.set i .no))
  | _ => none) P := Iff.rfl
@[simp] theorem okS_bk : okS (sBk ρ) P ↔ P (.bk ρ) := okS_some
@[simp] theorem okS_ct : okS (sCt ρ) P ↔ P (.ct ρ) := okS_some
@[simp] theorem frzSl_eq {i : Nat} : frzSl ρ i = match ρ[i]? with
  | some (.own .free t) => (t.toD).map fun d => ρ.set i (.val d)
  | some (.val _) => some ρ
  | _ => none := rfl
@[simp] theorem okM_iEnumD {f : M (List Rv)} {Q : List PyData → Rho → Prop} : okM (iEnumD f ρ) Q ↔ okM (f ρ) fun rs ρ1 => okO (match rs with
  | [.d (.list xs)] => some (enumD xs)
  | [.d (.tuple xs)] => some (enumD xs)
  | _ => none) fun xs => Q xs ρ1 := by
  unfold iEnumD
  rw [okM_bnd]
  refine okM_congr fun rs ρ1 => ?_
  split <;> simp
@[simp] theorem okM_iZipD {f : M (List Rv)} {Q : List PyData → Rho → Prop} : okM (iZipD f ρ) Q ↔ okM (f ρ) fun rs ρ1 => okO (match rs with
  | [.d (.list xs), .d (.list ys)] => some (zipD xs ys)
  | [.d (.tuple xs), .d (.tuple ys)] => some (zipD xs ys)
  | _ => none) fun xs => Q xs ρ1 := by
  unfold iZipD
  rw [okM_bnd]
  refine okM_congr fun rs ρ1 => ?_
  split <;> simp
theorem okM_comp {fi : M (List PyData)} {vs : List Nat} {G : MG} {tt : M Bool} {te : M Rv} {Q : Tr → Rho → Prop} (h : okM (fi ρ) fun xs ρ1 => noOwn ρ1 vs = true ∧ okO (compGo vs G tt te xs [] (wipeR ρ1 vs)) fun p => noOwn p.2 vs = true ∧ Q (.lst (p.1.map .dat)) (restR ρ1 p.2 vs)) : okM (nComp fi vs G tt te ρ) Q := by
  unfold nComp
  rw [okM_bnd]
  refine okM_mono h fun xs ρ1 p => ?_
  obtain ⟨p1, ⟨ds, ρ2⟩, e, p2, p3⟩ := p
  unfold comp1
  rw [if_pos p1, e]
  simp only [p2, if_true]
  exact okM_ok.mpr p3
@[simp] theorem noOwn_nil : noOwn ρ [] = true := rfl
@[simp] theorem noOwn_cons {i : Nat} {vs : List Nat} : noOwn ρ (i :: vs) = ((match ρ[i]? with
    | some (.own _ _) => false
    | some (.al _ _) => false
    | _ => true) && noOwn ρ vs) := rfl
@[simp] theorem wipeR_nil : wipeR ρ [] = ρ := rfl
@[simp] theorem wipeR_cons {i : Nat} {vs : List Nat} : wipeR ρ (i :: vs) = (wipeR ρ vs).set i .no := rfl
@[simp] theorem restR_nil {ρ0 : Rho} : restR ρ0 ρ [] = ρ := rfl
@[simp] theorem restR_cons {ρ0 : Rho} {i : Nat} {vs : List Nat} : restR ρ0 ρ (i :: vs) = match ρ0[i]? with
    | some s => (restR ρ0 ρ vs).set i s
    | none => restR ρ0 ρ vs := rfl
@[simp] theorem okM_tYes {Q : Bool → Rho → Prop} : okM (tYesM ρ) Q ↔ Q true ρ := okM_ok
@[simp] theorem okM_cListZip {f : M (List Rv)} {Q : Rv → Rho → Prop} : okM (cListZip f ρ) Q ↔ okM (f ρ) fun rs ρ1 => okM (lzip1 rs ρ1) Q := by
  unfold cListZip
  rw [okM_bnd]
@[simp] theorem okM_lzip1 {x y : Rv} {Q : Rv → Rho → Prop} : okM (lzip1 [x, y] ρ) Q ↔ ∃ ds es, derS ρ x = some (.list ds) ∧ derS ρ y = some (.list es) ∧ ds.length = es.length ∧ Q (.d (.list (zipP ds es))) ρ := by
  unfold lzip1
  simp only
  constructor
  · intro h
    split at h
    · rename_i ds es h1 h2
      split at h
      · rename_i hl
        exact ⟨ds, es, h1, h2, hl, okM_ok.mp h⟩
      · exact (okM_none.mp h).elim
    · exact (okM_none.mp h).elim
  · rintro ⟨ds, es, h1, h2, hl, q⟩
    simp only [h1, h2, hl, if_true]
    exact okM_ok.mpr q
@[simp] theorem okM_nRep {fa fb : M Rv} {Q : Tr → Rho → Prop} : okM (nRep fa fb ρ) Q ↔ okM (fa ρ) fun x ρ1 => okM (fb ρ1) fun y ρ2 => okM (rep1 x y ρ2) Q := by
  unfold nRep
  simp only [okM_bnd]
@[simp] theorem okM_rep1 {ds : List PyData} {k : Int} {Q : Tr → Rho → Prop} : okM (rep1 (.d (.list ds)) (.d (.int k)) ρ) Q ↔ repOk ds k = true ∧ Q (.lst ((repL ds k).map .dat)) ρ := by
  unfold rep1
  simp only [derS_d]
  by_cases h : repOk ds k = true
  · rw [if_pos h]; simp [h]
  · rw [if_neg h]; simp [h]
@[simp] theorem okO_repD {ds : List PyData} {k : Int} {Q : PyData → Prop} : okO (repD (.list ds) (.int k)) Q ↔ repOk ds k = true ∧ Q (.list (repL ds k)) := by
  show okO (if repOk ds k then some (.list (repL ds k)) else none) Q ↔ _
  rw [okO_ite]
@[simp] theorem okO_sortedD {ds : List PyData} {Q : PyData → Prop} : okO (sortedD [.list ds]) Q ↔ sortOk ds = true ∧ Q (.list (sortL ds)) := by
  show okO (if sortOk ds then some (.list (sortL ds)) else none) Q ↔ _
  rw [okO_ite]
@[simp] theorem okO_sumD {ds : List PyData} {Q : PyData → Prop} : okO (sumD [.list ds]) Q ↔ okO (intsD ds) fun ns => Q (.int ns.sum) := by
  show okO ((intsD ds).map fun ns => .int ns.sum) Q ↔ _
  rw [okO_map]
@[simp] theorem intsD_map {ns : List Int} : intsD (ns.map .int) = some ns := by
  induction ns with
  | nil => rfl
  | cons n ns ih => simp [intsD, ih]
@[simp] theorem okM_iOwn {i : Nat} {Q : List PyData → Rho → Prop} : okM (iOwn i ρ) Q ↔ okO (match ρ[i]? with
  | some (.own _ (.lst ts)) => flat ts
  | _ => none) fun xs => Q xs ρ := by
  unfold iOwn
  cases h : ρ[i]? with
  | none => simp
  | some s =>
    cases s with
    | no => simp
    | al _ _ => simp
    | val d => simp
    | own m t =>
      cases t with
      | lst ts => cases hf : flat ts <;> simp [hf]
      | _ => simp
@[simp] theorem okM_nListZip {f : M (List Rv)} {Q : Tr → Rho → Prop} : okM (nListZip f ρ) Q ↔ okM (f ρ) fun rs ρ1 => okM (nzip1 rs ρ1) Q := by
  unfold nListZip
  rw [okM_bnd]
@[simp] theorem okM_nzip1 {x y : Rv} {Q : Tr → Rho → Prop} : okM (nzip1 [x, y] ρ) Q ↔ ∃ ds es, derS ρ x = some (.list ds) ∧ derS ρ y = some (.list es) ∧ ds.length = es.length ∧ Q (.lst ((zipP ds es).map .dat)) ρ := by
  unfold nzip1
  simp only
  constructor
  · intro h
    split at h
    · rename_i ds es h1 h2
      split at h
      · rename_i hl
        exact ⟨ds, es, h1, h2, hl, okM_ok.mp h⟩
      · exact (okM_none.mp h).elim
    · exact (okM_none.mp h).elim
  · rintro ⟨ds, es, h1, h2, hl, q⟩
    simp only [h1, h2, hl, if_true]
    exact okM_ok.mpr q
@[simp] theorem okM_nCat {fa fb : M Rv} {Q : Tr → Rho → Prop} : okM (nCat fa fb ρ) Q ↔ okM (fa ρ) fun x ρ1 => okM (fb ρ1) fun y ρ2 => okM (cat1 x y ρ2) Q := by
  unfold nCat
  simp only [okM_bnd]
@[simp] theorem okM_nDT {fk fv : M Rv} {Q : Tr → Rho → Prop} : okM (nDT fk fv ρ) Q ↔ okM (fk ρ) fun x ρ1 => okM (fv ρ1) fun y ρ2 => okM (mkDT x y ρ2) Q := by
  unfold nDT
  simp only [okM_bnd]
@[simp] theorem okM_nCallT {F : Fn} {g : M Tr} {Q : Tr → Rho → Prop} : okM (nCallT F g ρ) Q ↔ okM (g ρ) fun t ρ1 => okF (F [.own .free t]) fun r _ => Q r ρ1 := by
  unfold nCallT
  rw [okM_bnd]
  refine okM_congr fun t ρ1 => ?_
  unfold call1T
  constructor
  · intro h
    split at h
    · rename_i r outs e
      exact ⟨r, outs, e, okM_ok.mp h⟩
    · exact (okM_none.mp h).elim
  · rintro ⟨r, outs, e, h⟩
    rw [e]
    exact okM_ok.mpr h
@[simp] theorem rdSl_fk {i : Nat} {m : Md} {ts : List (Key × PyData)} : rdSl i (some (.own m (.fk ts))) = some (.o i) := rfl
@[simp] theorem okM_cSortDI {f : M (Nat × List Nat)} {Q : Rv → Rho → Prop} : okM (cSortDI f ρ) Q ↔ okM (f ρ) fun r ρ1 => okO (match treeAt ρ1 r with
  | some (.dk kvs) => intKeys kvs
  | _ => none) fun ks => Q (.d (.list ((sortI ks).map .int))) ρ1 := by
  unfold cSortDI
  rw [okM_bnd]
  refine okM_congr fun r ρ1 => ?_
  cases h : treeAt ρ1 r with
  | none => simp
  | some t =>
    cases t with
    | dk kvs =>
      simp only
      cases hk : intKeys kvs <;> simp
    | _ => simp
@[simp] theorem okO_maxTD {d : PyData} {ds : List PyData} {Q : PyData → Prop} : okO (maxTD [.list (d :: ds)]) Q ↔ maxOk (d :: ds) = true ∧ Q (PySem.W.maxD d ds) := by
  show okO (if maxOk (d :: ds) then some (PySem.W.maxD d ds) else none) Q ↔ _
  rw [okO_ite]
@[simp] theorem okM_tNilM {Q : List Tr → Rho → Prop} : okM (tNilM ρ) Q ↔ Q [] ρ := okM_ok
@[simp] theorem okM_tConsM {f : M Tr} {g : M (List Tr)} {Q : List Tr → Rho → Prop} : okM (tConsM f g ρ) Q ↔ okM (f ρ) fun t ρ1 => okM (g ρ1) fun ts ρ2 => Q (t :: ts) ρ2 := by
  unfold tConsM
  simp only [okM_bnd, okM_ret]
theorem okM_small {n : Nat} {t : Tr} {Q : Tr → Rho → Prop} : okM (if small n then some (Er.ok t ρ) else none) Q ↔ small n = true ∧ Q t ρ := by
  split <;> simp_all
@[simp] theorem okM_nTupT {f : M (List Tr)} {Q : Tr → Rho → Prop} : okM (nTupT f ρ) Q ↔ okM (f ρ) fun ts ρ1 => (small ts.length = true ∧ ts.any isNode = true) ∧ Q (.tup ts) ρ1 := by
  unfold nTupT
  simp only [okM_bnd]
  refine okM_congr fun ts ρ1 => ?_
  rw [← Bool.and_eq_true]
  split <;> simp_all
@[simp] theorem isNode_lst {ts : List Tr} : isNode (.lst ts) = true := rfl
@[simp] theorem isNode_tup {ts : List Tr} : isNode (.tup ts) = true := rfl
@[simp] theorem isNode_dat {d : PyData} : isNode (.dat d) = false := rfl
@[simp] theorem okM_nLstT {f : M (List Tr)} {Q : Tr → Rho → Prop} : okM (nLstT f ρ) Q ↔ okM (f ρ) fun ts ρ1 => small ts.length = true ∧ Q (.lst ts) ρ1 := by
  unfold nLstT
  simp only [okM_bnd, okM_small]
end
end VL

end

section
set_option Elab.async false
set_option linter.all false
set_option maxRecDepth 100000
namespace VL
open PySem PySem.Spec PyProof.Rows L2
structure Sh (n : Nat) (d : PyData) : Prop where
  c : d.canLay0 = true
  h : d.depth ≤ n
theorem Sh.mono {n m : Nat} {d : PyData} (h : Sh n d) (hm : n ≤ m) : Sh m d := ⟨h.c, Nat.le_trans h.h hm⟩
theorem Sh.int {i : Int} {n : Nat} : Sh n (.int i) := ⟨by simp [PyData.canLay0], by simp [PyData.depth]⟩
theorem Sh.bool {b : Bool} {n : Nat} : Sh n (.bool b) := ⟨by simp [PyData.canLay0], by simp [PyData.depth]⟩
theorem Sh.none {n : Nat} : Sh n .none := ⟨by simp [PyData.canLay0], by simp [PyData.depth]⟩
theorem Sh.str {s : Str} {n : Nat} (h : PyData.canLay0 (.str s) = true) : Sh n (.str s) := ⟨h, by simp [PyData.depth]⟩
theorem shAll {n : Nat} : ∀ {xs : List PyData}, (∀ x ∈ xs, Sh n x) → PyData.canLayAll0 xs = true ∧ PyData.depthAll xs ≤ n
  | [], _ => ⟨by simp [PyData.canLayAll0], by simp [PyData.depthAll]⟩
  | x :: xs, h => by
    obtain ⟨h1, h2⟩ := shAll (xs := xs) fun y hy => h y (List.mem_cons_of_mem _ hy)
    have h3 := h x List.mem_cons_self
    exact ⟨by simp [PyData.canLayAll0, h1, h3.c], by simp only [PyData.depthAll]; have := h3.h; omega⟩
theorem Sh.tuple {n : Nat} {xs : List PyData} (h : ∀ x ∈ xs, Sh n x) : Sh (n + 1) (.tuple xs) := ⟨by simp [PyData.canLay0, (shAll h).1], by simp [PyData.depth, (shAll h).2]⟩
theorem Sh.list {n : Nat} {xs : List PyData} (h : ∀ x ∈ xs, Sh n x) : Sh (n + 1) (.list xs) := ⟨by simp [PyData.canLay0, (shAll h).1], by simp [PyData.depth, (shAll h).2]⟩
theorem Sh.ok {n : Nat} {d : PyData} (h : Sh n d) (hn : n ≤ 64 := by omega) : SeqAt.shaped d = true := by
  unfold SeqAt.shaped
  rw [h.c, Bool.true_and]
  exact decide_eq_true (Nat.le_trans h.h hn)
@[simp] theorem shaped_int {i : Int} : SeqAt.shaped (.int i) = true := (Sh.int (n := 0)).ok
@[simp] theorem shaped_bool {i : Bool} : SeqAt.shaped (.bool i) = true := (Sh.bool (n := 0)).ok
@[simp] theorem shaped_none : SeqAt.shaped .none = true := (Sh.none (n := 0)).ok
@[simp] theorem okO_eqD {d e : PyData} {Q : Bool → Prop} : okO (eqD d e) Q ↔ (SeqAt.shaped d && SeqAt.shaped e) = true ∧ Q (PyData.eqv d e) := by
  unfold eqD
  rw [okO_ite]
@[simp] theorem okO_neD {d e : PyData} {Q : Bool → Prop} : okO (neD d e) Q ↔ (SeqAt.shaped d && SeqAt.shaped e) = true ∧ Q (!PyData.eqv d e) := by
  unfold neD
  rw [okO_ite]
@[simp] theorem okO_inL {d : PyData} {ds : List PyData} {Q : Bool → Prop} : okO (inD d (.list ds)) Q ↔ (SeqAt.shaped d && SeqAt.shaped (.list ds)) = true ∧ Q (ds.any fun z => PyData.eqv z d) := by
  unfold inD
  rw [okO_ite]
@[simp] theorem okO_inT {d : PyData} {ds : List PyData} {Q : Bool → Prop} : okO (inD d (.tuple ds)) Q ↔ (flatD d && ds.all flatD) = true ∧ Q (ds.any fun z => PyData.eqv z d) := by
  unfold inD
  rw [okO_ite]
@[simp] theorem okO_notIn {d e : PyData} {Q : Bool → Prop} : okO (notInD d e) Q ↔ okO (inD d e) fun b => Q (!b) := by
  unfold notInD
  rw [okO_map]
theorem eqv_self {d : PyData} (h : SeqAt.shaped d = true) : PyData.eqv d d = true := SeqAt.eqv_refl d (SeqAt.canLay_of_shaped h)
@[simp] theorem eqv_ii {i j : Int} : PyData.eqv (.int i) (.int j) = (i == j) := by simp [PyData.eqv]
@[simp] theorem eqv_bb {i j : Bool} : PyData.eqv (.bool i) (.bool j) = (i == j) := by simp [PyData.eqv]
@[simp] theorem eqv_ss {i j : Str} : PyData.eqv (.str i) (.str j) = (i == j) := by simp [PyData.eqv]
@[simp] theorem isND_i {i : Int} : isND (.int i) .none = some false := rfl
@[simp] theorem isND_n : isND .none .none = some true := rfl
@[simp] theorem isND_s {i : Str} : isND (.str i) .none = some false := rfl
@[simp] theorem isND_b {i : Bool} : isND (.bool i) .none = some false := rfl
@[simp] theorem isND_t {i : List PyData} : isND (.tuple i) .none = some false := rfl
@[simp] theorem isND_l {i : List PyData} : isND (.list i) .none = some false := rfl
@[simp] theorem notND_eq {d e : PyData} : notND d e = (isND d e).map (!·) := rfl
@[simp] theorem isiD_i {B : BT} {i : Int} : isiD B (.int i) = some (match B with | .int => true | _ => false) := rfl
@[simp] theorem isiD_b {B : BT} {i : Bool} : isiD B (.bool i) = some (match B with | .int => true | .bool => true | _ => false) := rfl
@[simp] theorem isiD_s {B : BT} {i : Str} : isiD B (.str i) = some (match B with | .str => true | _ => false) := rfl
@[simp] theorem isiD_n {B : BT} : isiD B .none = some false := rfl
@[simp] theorem isiD_t {B : BT} {i : List PyData} : isiD B (.tuple i) = some (match B with | .tuple => true | _ => false) := rfl
@[simp] theorem isiD_l {B : BT} {i : List PyData} : isiD B (.list i) = some (match B with | .list => true | _ => false) := rfl
mutual
noncomputable def sameB : PyData → PyData → Bool
  | .none, .none => true
  | .bool a, .bool b => a == b
  | .int a, .int b => a == b
  | .str a, .str b => decide (a = b)
  | .list a, .list b => sameBs a b
  | .tuple a, .tuple b => sameBs a b
  | _, _ => false
noncomputable def sameBs : List PyData → List PyData → Bool
  | [], [] => true
  | a :: as, b :: bs => sameB a b && sameBs as bs
  | _, _ => false
end
mutual
theorem sameB_ok : ∀ {a b : PyData}, sameB a b = true → a = b
  | .none, b, h => by cases b <;> simp [sameB] at h ⊢
  | .bool a, b, h => by cases b <;> simp [sameB] at h ⊢; exact h
  | .int a, b, h => by cases b <;> simp [sameB] at h ⊢; exact h
  | .str a, b, h => by cases b <;> simp [sameB] at h ⊢; exact h
  | .list a, b, h => by cases b <;> simp [sameB] at h ⊢; exact sameBs_ok h
  | .tuple a, b, h => by cases b <;> simp [sameB] at h ⊢; exact sameBs_ok h
  | .dict a, b, h => by cases b <;> simp [sameB] at h
theorem sameBs_ok : ∀ {a b : List PyData}, sameBs a b = true → a = b
  | [], b, h => by cases b <;> simp [sameBs] at h ⊢
  | a :: as, b, h => by
    cases b with
    | nil => simp [sameBs] at h
    | cons b bs =>
      simp only [sameBs, Bool.and_eq_true] at h
      rw [sameB_ok h.1, sameBs_ok h.2]
end
end VL

end

section
set_option Elab.async false
set_option linter.all false
set_option maxRecDepth 100000
namespace VL
open PySem PySem.Spec PyProof.Rows L2
noncomputable def gBag : MS := (sSeq (sSet 2 (cD (.int 0)))
  (sSeq (sIf (cCmp ltD (cVar 1) (cCall lenD (aCons (cVar 0) aNil))) (sSet 2 (cBin modD (cBin subD (cVar 0) (cVar 1)) (cBin mulD (cBin powD (cD (.int 10)) (cD (.int 60))) (cBin powD (cD (.int 10)) (cD (.int 60)))))) sNil)
  (sSeq (sIf (cCmp ltD (cVar 2) (cBin powD (cD (.int 10)) (cD (.int 18)))) (sRet (nLst (aCons (cD (.int 0)) (aCons (cBin addD (cD (.int 1)) (cBin modD (cBin addD (cBin mulD (cVar 2) (cD (.int 7919))) (cBin mulD (cD (.int 104729)) (cVar 1))) (cD (.int 2147483646)))) aNil)))) sNil)
  (sRet (nLst (aCons (cVar 2) (aCons (cBin addD (cD (.int 1)) (cBin modD (cBin addD (cVar 2) (cVar 1)) (cD (.int 2147483646)))) aNil)))))))
noncomputable def gTake : MS := (sSeq (sIf (cCmp gtD (cBin subD (cVar 0) (cD (.int 0))) (cD (.int 0))) (sSeq (sSet 2 (cBin modD (cBin subD (cVar 0) (cD (.int 0))) (cVar 1)))
  (sSeq (sSetIx [] (cBin fdivD (cBin subD (cVar 0) (cD (.int 0))) (cVar 1)) (pVar 0) (cD (.int 0)))
  (sRetV 2))) sNil)
  (sSeq (sSetIx [] (cBin modD (cBin mulD (cBin subD (cVar 0) (cD (.int 1))) (cD (.int 48271))) (cD (.int 2147483647))) (pVar 0) (cD (.int 1)))
  (sRet (nDat (cBin modD (cBin fdivD (cBin modD (cBin mulD (cBin subD (cVar 0) (cD (.int 1))) (cBin subD (cVar 0) (cD (.int 1)))) (cD (.int 2147483629))) (cD (.int 64))) (cVar 1))))))
noncomputable def fBag : Fn := runF 3 gBag
noncomputable def fTake : Fn := runF 3 gTake
noncomputable def sIn : Str := ⟨#[105, 110]⟩
theorem eIn : ("in" : Str) = sIn := by decide +kernel
noncomputable def sOut : Str := ⟨#[111, 117, 116]⟩
theorem eOut : ("out" : Str) = sOut := by decide +kernel
noncomputable def sChin : Str := ⟨#[99, 104, 105, 110]⟩
theorem eChin : ("chin" : Str) = sChin := by decide +kernel
noncomputable def sBrow : Str := ⟨#[98, 114, 111, 119]⟩
theorem eBrow : ("brow" : Str) = sBrow := by decide +kernel
noncomputable def gShowing : MS := (sRet (nDat (cTup (aCons (cBin addD (cD (.int 1)) (cFrz (nCall [0] 2 fTake (aCons (cVar 0) (aCons (cD (.int 9)) aNil))))) (aCons (cBin subD (cFrz (nLst (aCons (cD (.str sChin)) (aCons (cD (.str sChin)) (aCons (cD (.str sBrow)) aNil))))) (cFrz (nCall [0] 2 fTake (aCons (cVar 0) (aCons (cD (.int 3)) aNil))))) aNil)))))
noncomputable def fShowing : Fn := runF 1 gShowing
noncomputable def gSign : MS := (sSeq (sSet 1 (cBin subD (cFrz (nLst (aCons (cD (.str sIn)) (aCons (cD (.str sOut)) aNil)))) (cFrz (nCall [0] 2 fTake (aCons (cVar 0) (aCons (cD (.int 2)) aNil))))))
  (sRet (nDat (cBin addD (cTup (aCons (cVar 1) (aCons (cFrz (nCall [0] 2 fTake (aCons (cVar 0) (aCons (cD (.int 10)) aNil)))) aNil))) (cFrz (nCall [0] 1 fShowing (aCons (cVar 0) aNil)))))))
noncomputable def fSign : Fn := runF 2 gSign
inductive BagT : Tr → Prop where
  | mk {c s : Int} (c0 : 0 ≤ c) (s0 : 0 ≤ s) (s1 : s < 2147483648) : BagT (.lst [.dat (.int c), .dat (.int s)])
theorem mod2 {s : Int} (h0 : 0 ≤ s) (h1 : s < 2147483648) : 0 ≤ s * 48271 % 2147483647 ∧ s * 48271 % 2147483647 < 2147483648 := by omega
theorem ixN_nat {n : Nat} {i : Int} (h0 : 0 ≤ i) (h1 : i < n) : ixN n i = some i.toNat := by
  unfold ixN
  rw [if_pos h0, if_pos h1]
@[simp] theorem ixN_cast {n k : Nat} (h : k < n) : ixN n (k : Int) = some k := by
  rw [ixN_nat (by omega) (by omega), Int.toNat_natCast]
@[simp] theorem ixN_0 {n : Nat} (h : 0 < n) : ixN n 0 = some 0 := ixN_nat (by omega) (by omega)
@[simp] theorem ixN_1 {n : Nat} (h : 1 < n) : ixN n 1 = some 1 := ixN_nat (by omega) (by omega)
theorem atI_nat {α : Type} {xs : List α} {i : Int} (h0 : 0 ≤ i) (h1 : i < xs.length) : atI xs i = xs[i.toNat]? := by
  unfold atI
  rw [ixN_nat h0 h1]
  rfl
@[simp] theorem atI_cast {α : Type} {xs : List α} {k : Nat} (h : k < xs.length) : atI xs (k : Int) = xs[k]? := by
  rw [atI_nat (by omega) (by omega), Int.toNat_natCast]
@[simp] theorem atI_0 {α : Type} {xs : List α} (h : 0 < xs.length) : atI xs 0 = xs[0]? := by
  unfold atI
  rw [ixN_0 h]
  rfl
@[simp] theorem atI_1 {α : Type} {xs : List α} (h : 1 < xs.length) : atI xs 1 = xs[1]? := by
  unfold atI
  rw [ixN_1 h]
  rfl
@[simp] theorem ixN_2 {n : Nat} (h : 2 < n) : ixN n 2 = some 2 := ixN_nat (by omega) (by omega)
@[simp] theorem atI_2 {α : Type} {xs : List α} (h : 2 < xs.length) : atI xs 2 = xs[2]? := by
  unfold atI
  rw [ixN_2 h]
  rfl
@[simp] theorem ixN_3 {n : Nat} (h : 3 < n) : ixN n 3 = some 3 := ixN_nat (by omega) (by omega)
@[simp] theorem atI_3 {α : Type} {xs : List α} (h : 3 < xs.length) : atI xs 3 = xs[3]? := by
  unfold atI
  rw [ixN_3 h]
  rfl
@[simp] theorem ixN_4 {n : Nat} (h : 4 < n) : ixN n 4 = some 4 := ixN_nat (by omega) (by omega)
@[simp] theorem atI_4 {α : Type} {xs : List α} (h : 4 < xs.length) : atI xs 4 = xs[4]? := by
  unfold atI
  rw [ixN_4 h]
  rfl
@[simp] theorem ixN_5 {n : Nat} (h : 5 < n) : ixN n 5 = some 5 := ixN_nat (by omega) (by omega)
@[simp] theorem atI_5 {α : Type} {xs : List α} (h : 5 < xs.length) : atI xs 5 = xs[5]? := by
  unfold atI
  rw [ixN_5 h]
  rfl
@[simp] theorem ixN_6 {n : Nat} (h : 6 < n) : ixN n 6 = some 6 := ixN_nat (by omega) (by omega)
@[simp] theorem atI_6 {α : Type} {xs : List α} (h : 6 < xs.length) : atI xs 6 = xs[6]? := by
  unfold atI
  rw [ixN_6 h]
  rfl
@[simp] theorem ixN_7 {n : Nat} (h : 7 < n) : ixN n 7 = some 7 := ixN_nat (by omega) (by omega)
@[simp] theorem atI_7 {α : Type} {xs : List α} (h : 7 < xs.length) : atI xs 7 = xs[7]? := by
  unfold atI
  rw [ixN_7 h]
  rfl
@[simp] theorem ixN_8 {n : Nat} (h : 8 < n) : ixN n 8 = some 8 := ixN_nat (by omega) (by omega)
@[simp] theorem atI_8 {α : Type} {xs : List α} (h : 8 < xs.length) : atI xs 8 = xs[8]? := by
  unfold atI
  rw [ixN_8 h]
  rfl
@[simp] theorem ixN_9 {n : Nat} (h : 9 < n) : ixN n 9 = some 9 := ixN_nat (by omega) (by omega)
@[simp] theorem atI_9 {α : Type} {xs : List α} (h : 9 < xs.length) : atI xs 9 = xs[9]? := by
  unfold atI
  rw [ixN_9 h]
  rfl
theorem take_ok {m : Md} {t : Tr} {n : Int} (hm : m.ow = true) (hb : BagT t) (hn : 0 < n) (hl : n.natAbs < lim) {Q : Tr → List Sl → Prop} (k : ∀ r t', 0 ≤ r → r < n → BagT t' → Q (.dat (.int r)) [.own .pin t', .val (.int n)]) :
    okF (fTake [.own m t, .val (.int n)]) Q := by
  obtain ⟨h0, h1, h2⟩ := hb
  rename_i c s
  have hp : pinS (.own m (.lst [.dat (.int c), .dat (.int s)])) = .own .pin (.lst [.dat (.int c), .dat (.int s)]) := by cases m <;> first | rfl | cases hm
  refine okF_run ?_
  simp only [entry, List.map_cons, List.map_nil, hp]
  unfold gTake
  rw [okS_seq]
  refine okS_if ?_
  simp
  split
  · rw [okS_seq]
    refine okS_set ?_
    simp [hn]
    rw [okS_seq]
    refine okS_setIx ?_
    simp [hn, hl]
    exact k _ _ (Int.emod_nonneg _ (by omega)) (Int.emod_lt_of_pos _ hn) ⟨Int.ediv_nonneg h0 (by omega), h1, h2⟩
  · rw [okS_seq]
    refine okS_setIx ?_
    simp
    refine ⟨⟨lt_lim (by omega) (by omega), by decide +kernel⟩, ?_⟩
    refine okS_ret ?_
    have hs := mod2 h1 h2
    generalize s * 48271 % 2147483647 = z at hs ⊢
    simp [hn]
    refine ⟨lt_lim (by omega) (by omega), by decide +kernel, ?_⟩
    exact k _ _ (Int.emod_nonneg _ (by omega)) (Int.emod_lt_of_pos _ hn) ⟨h0, hs.1, hs.2⟩
theorem bag_ok {ns : List Int} {i : Nat} (hi : i ≤ 40) {Q : Tr → List Sl → Prop} (k : ∀ t, BagT t → Q t [.val (scrD ns), .val (.int i)]) :
    okF (fBag [.val (scrD ns), .val (.int i)]) Q := by
  refine okF_run ?_
  simp only [entry, List.map_cons, List.map_nil, pinS_val]
  unfold gBag
  rw [okS_seq]
  refine okS_set ?_
  simp
  rw [okS_seq]
  refine okS_if ?_
  have fin : ∀ z : Int, 0 ≤ z → okS (sSeq (sIf (cCmp ltD (cVar 2) (cBin powD (cD (.int 10)) (cD (.int 18)))) (sRet (nLst (aCons (cD (.int 0)) (aCons (cBin addD (cD (.int 1)) (cBin modD (cBin addD (cBin mulD (cVar 2) (cD (.int 7919))) (cBin mulD (cD (.int 104729)) (cVar 1))) (cD (.int 2147483646)))) aNil)))) sNil)
      (sRet (nLst (aCons (cVar 2) (aCons (cBin addD (cD (.int 1)) (cBin modD (cBin addD (cVar 2) (cVar 1)) (cD (.int 2147483646)))) aNil)))) [.val (scrD ns), .val (.int i), .val (.int z)]) fun o => match o with
        | .nx ρ' => Q (.dat .none) (ρ'.take 2)
        | .rt t ρ' => Q t (ρ'.take 2)
        | _ => False := by
    intro z hz
    rw [okS_seq]
    refine okS_if ?_
    simp
    split
    · rename_i h
      refine okS_ret ?_
      simp
      have e := @lt_lim i (by omega) (by omega)
      refine ⟨⟨lt_lim (by omega) (by omega), by decide +kernel⟩, ⟨by decide +kernel, by simpa using e⟩, ?_⟩
      exact k _ ⟨by omega, by omega, by omega⟩
    · refine okS_ret ?_
      simp
      exact k _ ⟨hz, by omega, by omega⟩
  simp
  split
  · rename_i h
    refine okS_set ?_
    simp [h]
    exact ⟨by decide +kernel, fin _ (Int.emod_nonneg _ (by decide))⟩
  · exact fin 0 (by omega)
theorem okM_take {ρ : Rho} {i : Nat} {m : Md} {t : Tr} {n : Int} {T : List Nat} {P : Tr → Rho → Prop} (hi : ρ[i]? = some (.own m t)) (hm : m.ow = true) (hT : T.contains i = true) (hb : BagT t) (hn : 0 < n) (hl : n.natAbs < lim) (k : ∀ r t', 0 ≤ r → r < n → BagT t' → P (.dat (.int r)) (ρ.set i (.own m t'))) :
    okM (callN T 2 fTake [.o i, .d (.int n)] ρ) P := by
  rw [okM_callN]
  simp only [argSls_o, hi, argSls_d, argSls_nil, Option.map_some, okO_some, List.length_cons, List.length_nil, oneEach_o, oneEach_d, oneEach_nil, posOf_d, posOf_nil, Option.map_none, Option.isNone_none, Bool.and_self, allIn_o, allIn_d, allIn_nil, hT, true_and]
  rw [ow_arg hm]
  refine take_ok hm hb hn hl fun r t' h0 h1 ht => ?_
  simp only [mrg_own, unb_pin, mrg_val, mrg_nil, backOk_own, backOk_val, backOk_nil, true_and]
  have e : wb ρ [.o i, .d (.int n)] [.own .pin t', .val (.int n)] = ρ.set i (.own m t') := by
    apply List.ext_getElem?
    intro j
    rw [wb_eq, wbGo_get, Nat.zero_add]
    by_cases hj : i = j
    · subst hj
      have hlen : i < ρ.length := (List.getElem?_eq_some_iff.mp hi).1
      rw [hi, List.getElem?_set_self hlen]
      simp
    · rw [List.getElem?_set_ne hj]
      simp [hj]
  rw [e]
  exact k r t' h0 h1 ht
inductive IsShow : PyData → Prop where
  | mk {f : Int} {p : Str} (h0 : 1 ≤ f) (h1 : f ≤ 9) (hp : p = sChin ∨ p = sBrow) : IsShow (.tuple [.int f, .str p])
inductive IsSign : PyData → Prop where
  | mk {a p : Str} {c f : Int} (ha : a = sIn ∨ a = sOut) (c0 : 0 ≤ c) (c1 : c ≤ 9) (h0 : 1 ≤ f) (h1 : f ≤ 9) (hp : p = sChin ∨ p = sBrow) : IsSign (.tuple [.str a, .int c, .int f, .str p])
theorem showing_ok {m : Md} {t : Tr} (hm : m.ow = true) (hb : BagT t) {Q : Tr → List Sl → Prop} (k : ∀ d t', IsShow d → BagT t' → Q (.dat d) [.own .pin t']) : okF (fShowing [.own m t]) Q := by
  have hp : pinS (.own m t) = .own .pin t := by cases m <;> first | rfl | cases hm
  refine okF_run ?_
  simp only [entry, List.map_cons, List.map_nil, hp]
  unfold gShowing
  refine okS_ret ?_
  obtain ⟨h0, h1, h2⟩ := hb
  simp [-okM_callN]
  refine okM_take rfl (by simp) rfl ⟨h0, h1, h2⟩ (by omega) (lt_lim (by omega) (by omega)) fun r t' r0 r1 ht => ?_
  obtain ⟨g0, g1, g2⟩ := ht
  simp [-okM_callN]
  refine okM_take rfl (by simp) rfl ⟨g0, g1, g2⟩ (by omega) (lt_lim (by omega) (by omega)) fun u t' u0 u1 ht => ?_
  have hu : u = 0 ∨ u = 1 ∨ u = 2 := by omega
  rcases hu with rfl | rfl | rfl
  · simp
    exact k _ _ ⟨by omega, by omega, .inl rfl⟩ ht
  · simp
    exact k _ _ ⟨by omega, by omega, .inl rfl⟩ ht
  · simp
    exact k _ _ ⟨by omega, by omega, .inr rfl⟩ ht
theorem wb_one {ρ : Rho} {i : Nat} {m m' : Md} {t t' : Tr} {rs : List Rv} {os : List Sl} {k : Nat} (hi : ρ[i]? = some (.own m t)) (hp : posOf rs i = some k) (ho : ∀ j, j ≠ i → posOf rs j = none) (hk : os[k]? = some (.own m' t')) : wb ρ rs os = ρ.set i (.own m t') := by
  apply List.ext_getElem?
  intro j
  rw [wb_eq, wbGo_get, Nat.zero_add]
  by_cases hj : i = j
  · subst hj
    have hlen : i < ρ.length := (List.getElem?_eq_some_iff.mp hi).1
    rw [hi, List.getElem?_set_self hlen, hp]
    simp [hk]
  · rw [List.getElem?_set_ne hj, ho j (Ne.symm hj)]
    simp
theorem okM_bag1 {F : Fn} {ρ : Rho} {i : Nat} {m : Md} {t : Tr} {T : List Nat} {P : Tr → Rho → Prop} (hi : ρ[i]? = some (.own m t)) (hT : T.contains i = true) (k : okF (F [.own m.arg t]) fun r outs => ∃ t', outs = [.own .pin t'] ∧ P r (ρ.set i (.own m t'))) :
    okM (callN T 1 F [.o i] ρ) P := by
  rw [okM_callN]
  simp only [argSls_o, hi, argSls_nil, Option.map_some, okO_some, List.length_cons, List.length_nil, oneEach_o, oneEach_nil, posOf_nil, Option.isNone_none, Bool.and_self, allIn_o, allIn_nil, hT, true_and]
  refine okF_mono k ?_
  rintro r outs ⟨t', rfl, p⟩
  simp only [mrg_own, unb_pin, mrg_nil, backOk_own, backOk_nil, true_and]
  rw [wb_one (k := 0) hi (by simp) (fun j hj => by simp [Ne.symm hj]) rfl]
  exact p
theorem okM_showing {ρ : Rho} {i : Nat} {m : Md} {t : Tr} {T : List Nat} {P : Tr → Rho → Prop} (hi : ρ[i]? = some (.own m t)) (hm : m.ow = true) (hT : T.contains i = true) (hb : BagT t) (k : ∀ d t', IsShow d → BagT t' → P (.dat d) (ρ.set i (.own m t'))) :
    okM (callN T 1 fShowing [.o i] ρ) P := okM_bag1 hi hT (by rw [ow_arg hm]; exact showing_ok hm hb fun d t' h h' => ⟨t', rfl, k d t' h h'⟩)
theorem sign_ok {m : Md} {t : Tr} (hm : m.ow = true) (hb : BagT t) {Q : Tr → List Sl → Prop} (k : ∀ d t', IsSign d → BagT t' → Q (.dat d) [.own .pin t']) : okF (fSign [.own m t]) Q := by
  have hp : pinS (.own m t) = .own .pin t := by cases m <;> first | rfl | cases hm
  refine okF_run ?_
  simp only [entry, List.map_cons, List.map_nil, hp]
  unfold gSign
  rw [okS_seq]
  refine okS_set ?_
  obtain ⟨h0, h1, h2⟩ := hb
  simp [-okM_callN]
  refine okM_take rfl (by simp) rfl ⟨h0, h1, h2⟩ (by omega) (lt_lim (by omega) (by omega)) fun r t' r0 r1 ht => ?_
  obtain ⟨g0, g1, g2⟩ := ht
  have hr : ∃ a, (a = sIn ∨ a = sOut) ∧ atI [PyData.str sIn, PyData.str sOut] r = some (.str a) := by
    have hu : r = 0 ∨ r = 1 := by omega
    rcases hu with rfl | rfl
    · exact ⟨_, .inl rfl, by simp⟩
    · exact ⟨_, .inr rfl, by simp⟩
  obtain ⟨a, ha, ea⟩ := hr
  simp [ea]
  refine okS_ret ?_
  simp [-okM_callN]
  refine okM_take rfl (by simp) rfl ⟨g0, g1, g2⟩ (by omega) (lt_lim (by omega) (by omega)) fun u t' u0 u1 ht => ?_
  obtain ⟨g0, g1, g2⟩ := ht
  simp [-okM_callN]
  refine okM_showing rfl (by simp) rfl ⟨g0, g1, g2⟩ fun d t' hd ht => ?_
  obtain ⟨d0, d1, d2⟩ := hd
  simp
  exact k _ _ ⟨ha, by omega, by omega, d0, d1, d2⟩ ht
end VL

end

section
set_option Elab.async false
set_option linter.all false
set_option maxRecDepth 100000
namespace VL
open PySem PySem.Spec PyProof.Rows L2
noncomputable def sBought : Str := ⟨#[98, 111, 117, 103, 104, 116]⟩
noncomputable def sSold : Str := ⟨#[115, 111, 108, 100]⟩
inductive IsCard (n : Int) : PyData → Prop where
  | mk {w o p c m : Int} {d : Str} (w0 : 0 ≤ w) (w1 : w < n) (o0 : 0 ≤ o) (o1 : o < n) (wo : w ≠ o) (hd : d = sBought ∨ d = sSold) (p0 : 0 ≤ p) (p1 : p ≤ 1000000000) (c0 : 1 ≤ c) (c1 : c ≤ 1000000) (m0 : 0 ≤ m) (m1 : m ≤ 1000000000) :
    IsCard n (.tuple [.int w, .int o, .str d, .int p, .int c, .int m])
@[simp] theorem flatD_i {i : Int} : flatD (.int i) = true := rfl
@[simp] theorem flatD_s {i : Str} : flatD (.str i) = true := rfl
@[simp] theorem flatD_b {i : Bool} : flatD (.bool i) = true := rfl
@[simp] theorem flatD_n : flatD .none = true := rfl
end VL

end

section
set_option Elab.async false
set_option linter.all false
set_option maxRecDepth 100000
namespace VL
open PySem PySem.Spec PyProof.Rows L2
noncomputable def unown : Sl → Bool
  | .own _ _ => false
  | .al _ _ => false
  | _ => true
theorem compGo_map {α : Type} {D : α → PyData} {v : Nat} {G : MG} {tt : M Bool} {te : M Rv} {ρ : Rho} (p : α → Bool) (f : α → PyData) (vs : List Nat) (R : α → Rho) (ρ0 : Rho) :
    ∀ (ds : List α) (acc : List PyData), acc.length + ds.length ≤ 16777216 → (∀ d ∈ ds, G (D d) ρ0 = some (R d) ∧ tt (R d) = some (.ok (p d) (R d)) ∧ (p d = true → te (R d) = some (.ok (.d (f d)) (R d))) ∧ noOwn (R d) vs = true ∧ wipeR (R d) vs = ρ0) →
    compGo vs G tt te (ds.map D) acc ρ0 = some (acc ++ (ds.filter p).map f, ρ0)
  | [], acc, _, _ => by simp [compGo]
  | d :: ds, acc, hl, h => by
    have again := fun acc' hl' => compGo_map (v := v) (G := G) (tt := tt) (te := te) (ρ := ρ) p f vs R ρ0 ds acc' hl' fun y hy => h y (List.mem_cons_of_mem _ hy)
    obtain ⟨e1, e2, e3, e4, e5⟩ := h d List.mem_cons_self
    simp only [List.length_cons] at hl
    rw [List.map_cons]
    unfold compGo
    rw [e1]
    simp only
    rw [e2]
    cases hp : p d with
    | true =>
      simp only [e3 hp, e4, e5, small_of (show acc.length + 1 ≤ 16777216 by omega), Bool.and_self, if_true]
      rw [again (acc ++ [f d]) (by simp; omega)]
      simp [List.filter_cons, hp]
    | false =>
      simp only [e4, e5, if_true]
      rw [again acc (by omega)]
      simp [List.filter_cons, hp]
theorem okM_compM {α : Type} {D : α → PyData} {ds : List α} {fi : M (List PyData)} {v : Nat} {tt : M Bool} {te : M Rv} {ρ : Rho} {Q : Tr → Rho → Prop} {s : Sl} (p : α → Bool) (f : α → PyData) (hi : fi ρ = some (.ok (ds.map D) ρ)) (hl : ds.length ≤ 16777216) (hv : ρ[v]? = some s) (hs : unown s = true)
    (ht : ∀ d ∈ ds, tt (ρ.set v (.val (D d))) = some (.ok (p d) (ρ.set v (.val (D d))))) (he : ∀ d ∈ ds, p d = true → te (ρ.set v (.val (D d))) = some (.ok (.d (f d)) (ρ.set v (.val (D d)))))
    (k : Q (.lst (((ds.filter p).map f).map .dat)) ρ) : okM (nComp fi [v] (gN v) tt te ρ) Q := by
  have hvl : v < ρ.length := (List.getElem?_eq_some_iff.mp hv).1
  refine okM_comp ?_
  rw [hi, okM_ok]
  have n1 : noOwn ρ [v] = true := by
    simp only [noOwn_cons, noOwn_nil, hv, Bool.and_true]
    cases s <;> first | rfl | cases hs
  have nn : noOwn (ρ.set v .no) [v] = true := by
    simp only [noOwn_cons, noOwn_nil, Bool.and_true]
    rw [List.getElem?_set_self hvl]
  refine ⟨n1, ?_⟩
  have w : wipeR ρ [v] = ρ.set v .no := rfl
  rw [w, compGo_map (v := v) (ρ := ρ) p f [v] (fun d => ρ.set v (.val (D d))) (ρ.set v .no) ds [] (by simpa using hl) fun d hd => ⟨?_, ht d hd, he d hd, ?_, ?_⟩]
  · rw [okO_some]
    refine ⟨nn, ?_⟩
    have e : restR ρ (ρ.set v .no) [v] = ρ := by
      simp only [restR_cons, restR_nil, hv]
      rw [List.set_set]
      apply List.ext_getElem?
      intro j
      by_cases hj : v = j
      · subst hj
        rw [List.getElem?_set_self hvl, hv]
      · rw [List.getElem?_set_ne hj]
    rw [e]
    simpa using k
  · rw [gN_eq, setSl_eq, List.getElem?_set_self hvl, frB_no, if_pos rfl, List.set_set]
  · simp only [noOwn_cons, noOwn_nil, Bool.and_true]
    rw [List.getElem?_set_self hvl]
  · simp only [wipeR_cons, wipeR_nil]
    rw [List.set_set]
noncomputable def tr (xs : List PyData) : Tr := .lst (xs.map .dat)
@[simp] theorem isNode_tr {xs : List PyData} : isNode (tr xs) = true := rfl
theorem toD_tr {xs : List PyData} : (tr xs).toD = some (.list xs) := by unfold tr; rw [toD_lst, toDs_map, Option.map_some]
@[simp] theorem rdSl_tr {i : Nat} {m : Md} {xs : List PyData} : rdSl i (some (.own m (tr xs))) = some (.o i) := rfl
@[simp] theorem dsSl_tr {m : Md} {xs : List PyData} : dsSl (some (.own m (tr xs))) = some (.list xs) := by
  show (flat (xs.map .dat)).map PyData.list = _
  rw [flat_dat]
  rfl
@[simp] theorem der_tr {xs : List PyData} : (tr xs).toD = some (.list xs) := toD_tr
end VL

end

section
set_option Elab.async false
set_option linter.all false
set_option maxRecDepth 100000
set_option maxHeartbeats 2000000
namespace SM
open PySem
noncomputable def s_BadNumber : Str := ⟨#[66, 97, 100, 78, 117, 109, 98, 101, 114]⟩
noncomputable def s_Closed : Str := ⟨#[67, 108, 111, 115, 101, 100]⟩
noncomputable def s_NoBargain : Str := ⟨#[78, 111, 66, 97, 114, 103, 97, 105, 110]⟩
noncomputable def s_NoMember : Str := ⟨#[78, 111, 77, 101, 109, 98, 101, 114]⟩
noncomputable def s_NoOffer : Str := ⟨#[78, 111, 79, 102, 102, 101, 114]⟩
noncomputable def s_NoQuarrel : Str := ⟨#[78, 111, 81, 117, 97, 114, 114, 101, 108]⟩
noncomputable def s_NoSign : Str := ⟨#[78, 111, 83, 105, 103, 110]⟩
noncomputable def s_NoWay : Str := ⟨#[78, 111, 87, 97, 121]⟩
noncomputable def s_NotSeen : Str := ⟨#[78, 111, 116, 83, 101, 101, 110]⟩
noncomputable def s_NotTheirs : Str := ⟨#[78, 111, 116, 84, 104, 101, 105, 114, 115]⟩
noncomputable def s_Own : Str := ⟨#[79, 119, 110]⟩
noncomputable def s_TooMany : Str := ⟨#[84, 111, 111, 77, 97, 110, 121]⟩
noncomputable def s_Twice : Str := ⟨#[84, 119, 105, 99, 101]⟩
noncomputable def s_x : Str := ⟨#[]⟩
end SM
namespace VL
open PySem PySem.Spec PyProof.Rows L2 SM
structure TabOk (K : PySem.W.Frag) (mg : Str → Option Value) (tab : List (Str × Addr)) (Hc : Addr) : Prop where
  mg : ∀ y ay, (y, ay) ∈ tab → mg y = some (.ref ay)
  nd : (tab.map (·.2)).Nodup
  ex : ∀ y ay, (y, ay) ∈ tab → ExcF K (tab.map (·.2)) ay
  hx : ∀ y ay, (y, ay) ∈ tab → PySem.W.exmOne K (.ref ay) (.ref Hc) = some true
noncomputable def tabB (K : PySem.W.Frag) (as : List Addr) (Hc : Addr) : Bool := decide as.Nodup && as.all fun C => excB K as C && (PySem.W.exmOne K (.ref C) (.ref Hc) == some true)
theorem tab_of {K : PySem.W.Frag} {mg : Str → Option Value} {tab : List (Str × Addr)} {Hc : Addr} (hm : ∀ y ay, (y, ay) ∈ tab → mg y = some (.ref ay)) (h : tabB K (tab.map (·.2)) Hc = true) : TabOk K mg tab Hc := by
  unfold tabB at h
  rw [Bool.and_eq_true, List.all_eq_true] at h
  obtain ⟨h1, h2⟩ := h
  have h3 : ∀ y ay, (y, ay) ∈ tab → excB K (tab.map (·.2)) ay = true ∧ (PySem.W.exmOne K (.ref ay) (.ref Hc) == some true) = true := fun y ay hy => by
    have := h2 ay (List.mem_map.mpr ⟨_, hy, rfl⟩)
    rwa [Bool.and_eq_true] at this
  exact ⟨hm, of_decide_eq_true h1, fun y ay hy => excF_of (h3 y ay hy).1, fun y ay hy => beq_iff_eq.mp (h3 y ay hy).2⟩
theorem TabOk.exc {K : PySem.W.Frag} {mg : Str → Option Value} {tab : List (Str × Addr)} {Hc : Addr} (T : TabOk K mg tab Hc) {c : Str} {D : Addr} (hc : c ∈ tab.map (·.1)) (hD : mg c = some (.ref D)) : ExcF K (tab.map (·.2)) D := by
  obtain ⟨⟨c', ac⟩, hcm, rfl⟩ := List.mem_map.mp hc
  have := T.mg _ _ hcm
  rw [hD] at this
  cases this
  exact T.ex _ _ hcm
section
variable {P : Program} {w : World} {K : PySem.W.Frag} {mg : Str → Option Value} {base : Heap}
end
end VL

end

section
set_option Elab.async false
set_option linter.all false
set_option maxRecDepth 100000
namespace VL
open PySem PySem.Spec PyProof.Rows L2
section
variable {α β : Type} {ρ : Rho}
@[simp] theorem okS_raise {c : Str} {P : Out → Prop} : okS (sRaise c ρ) P ↔ P (.ex c ρ) := okS_some
@[simp] theorem okM_nCallR {Ts : List Nat} {m : Nat} {F : Fn} {f : M (List Rv)} {P : Tr → Rho → Prop} : okM (nCallR Ts m F f ρ) P ↔ okM (f ρ) fun rs ρ1 => okM (callR Ts m F rs ρ1) P := by
  unfold nCallR
  simp only [okM_bnd]
section
variable {ds : List PyData} {n : Nat} {T : List Nat} {F : Fn}
theorem pure_2 : ∀ (ds : List PyData) (i : Nat), posOf (ds.map .d) i = none
  | [], _ => rfl
  | d :: ds, i => by simp [pure_2 ds i]
end
@[simp] theorem isNo_no : isNo (some .no) = true := rfl
end
end VL

end

section
set_option Elab.async false
set_option linter.all false
set_option maxRecDepth 100000
namespace VL
open PySem PySem.Spec PyProof.Rows L2
section
variable {X : Cx} {T T1 T2 T3 : List Nat} {W : WV} {K : Fg} {fp1 : M (Nat × List Nat)} {a : Expr} {pos p : Pos}
noncomputable def nMv (i : Nat) : M Tr := fun ρ => match ρ[i]? with
  | some (.own .free t) => some (.ok t (ρ.set i (.own .free .hole)))
  | _ => none
theorem vn_mv (i : Nat) {x : Str} (hN : X.N[i]? = some x := by rfl) (hv : Vis X.env.scope x := by first | exact Or.inl rfl | exact Or.inr (Or.inl rfl) | exact Or.inr (Or.inr rfl)) (hd : (x == ("__debug__" : Str)) = false := by decide)
    (hcd : (x == ("__classdict__" : Str)) = false := by decide) : VN X [i] W (.Name x pos) (nMv i) :=
  pe_imp (pe_var hN hv hd hcd) fun σ H Q ⟨F, ρ, fp, o, E, e, P⟩ => by
    unfold nMv at e
    split at e
    · rename_i t h
      cases ok_inj e
      obtain ⟨u, hu, q⟩ := E.sl i _ h
      have hi : i < ρ.length := (List.getElem?_eq_some_iff.mp h).1
      have alN : AlOk H σ (ρ.set i (.own .free .hole)) := al_set E hi rfl
      refine ⟨u, sg_some.mp hu, P u H F (fset fp i []) ⟨⟨⟨E.sub, by rw [List.length_set]; exact E.len, fun j s hs => ?_, fun j hj => ?_, fun j => ?_, fun j l b h1 h2 => ?_, E.tb, alN⟩, Same.refl _, fun _ h h' => absurd h h', fun _ h => h, fun _ _ h _ _ => h, fun b hb => ?_, fun j mj tj hj hmj => ?_, fun j tj hj => ?_⟩, fun j m t' hj => ?_, fun j hj => ?_⟩ ⟨fp i, q, E.nd i, fun b hb => .inr ⟨i, hb⟩, fun b hb z => ?_⟩⟩
      · unfold fset
        by_cases hji : i = j
        · subst hji
          rw [List.getElem?_set_self hi] at hs
          cases hs
          rw [if_pos rfl]
          exact ⟨u, hu, .hole⟩
        · rw [List.getElem?_set_ne hji] at hs
          rw [if_neg (Ne.symm hji)]
          exact E.sl j s hs
      · unfold fset
        by_cases hji : j = i
        · rw [if_pos hji]
        · rw [if_neg hji]
          refine E.nil j fun m t z => hj m t ?_
          rw [List.getElem?_set_ne (Ne.symm hji)]
          exact z
      · unfold fset
        split
        · exact List.nodup_nil
        · exact E.nd j
      · unfold fset at h1 h2
        split at h1
        · cases h1
        · split at h2
          · cases h2
          · exact E.ap j l b h1 h2
      · rcases hb.fset with z | z
        · cases z
        · exact .inl z
      · have hji : i ≠ j := fun z => by subst z; rw [h] at hj; cases hj; cases hmj
        exact ⟨rfl, mj, tj, by rw [List.getElem?_set_ne hji]; exact hj, hmj⟩
      · have hji : i ≠ j := fun z => by subst z; rw [h] at hj; cases hj
        refine ⟨rfl, by rw [List.getElem?_set_ne hji]; exact hj, ?_, fun _ _ => rfl⟩
        unfold fset
        rw [if_neg (Ne.symm hji)]
      · by_cases hji : i = j
        · subst hji
          rw [h] at hj
          cases hj
          exact ⟨.hole, List.getElem?_set_self hi⟩
        · exact ⟨t', by rw [List.getElem?_set_ne hji]; exact hj⟩
      · have hji : i ≠ j := fun z => hj (by simp [z])
        refine ⟨List.getElem?_set_ne hji, ?_, fun _ _ => rfl⟩
        unfold fset
        rw [if_neg (Ne.symm hji)]
      · obtain ⟨j, hj⟩ := z
        unfold fset at hj
        split at hj
        · cases hj
        · rename_i hne
          exact hne (E.ap j i b hj hb)
    · cases e
noncomputable def cutP1 (Ts : List Nat) (r : Nat × List Nat) (lo hi : Option Int) : M Rv := fun ρ => if Ts.contains r.1 then none else match treeAt ρ r with
  | some (.lst ts) => (match flat ts with
    | some ds => (match cutD (.list ds) lo hi with
      | some z => some (.ok (.d z) ρ)
      | none => none)
    | none => none)
  | _ => none
noncomputable def cCutP (Ts : List Nat) (f : M (Nat × List Nat)) (fl fh : M (Option Int)) : M Rv := bnd f fun r => bnd fl fun lo => bnd fh fun hi => cutP1 Ts r lo hi
variable {fl fh : M (Option Int)} {lo hi : Option Expr} {p2 : Pos}
noncomputable def cIsiP (B : BT) (f : M (Nat × List Nat)) : M Rv := bnd f fun r => fun ρ => match (treeAt ρ r).bind Tr.toD with
  | some d => (match isiD B d with
    | some b => some (.ok (.d (.bool b)) ρ)
    | none => none)
  | none => none
end
end VL

end

section
set_option Elab.async false
set_option linter.all false
set_option maxRecDepth 100000
namespace VL
open PySem PySem.Spec PyProof.Rows L2
section
variable {X : Cx} {T T1 T2 T3 T4 T5 : List Nat} {W : WV} {K : Fg} {pos p : Pos}
variable {fp1 : M (Nat × List Nat)} {fa : M Rv} {o i e : Expr} {apos cpos : Pos}
variable {fi fe : M Rv} {tpos : Pos}
end
end VL

end

section
set_option Elab.async false
set_option linter.all false
set_option maxRecDepth 100000
namespace VL
open PySem PySem.Spec PyProof.Rows L2
section
variable {X : Cx} {T : List Nat} {W : WV} {K : Fg} {pos : Pos}
noncomputable def keyTD (k : List Key) : PyData := .tuple (k.map keyPD)
theorem dqAll_keys {F : Hp} : ∀ {k : List Key}, DqAll K F (k.map kV) (k.map keyPD)
  | [] => .nil
  | _ :: _ => .cons keyPD_ok dqAll_keys
end
end VL

end

section
set_option Elab.async false
set_option linter.all false
set_option maxRecDepth 100000
set_option maxHeartbeats 2000000
namespace VL
open PySem PySem.Spec PyProof.Rows L2
noncomputable def keyIx {κ α : Type} [DecidableEq κ] (k : κ) : List (κ × α) → Option Nat
  | [] => none
  | (g, _) :: r => if g = k then some 0 else (keyIx k r).map (· + 1)
structure FldOk (K : Fg) (c : Str) (f : Str) : Prop where
  cl : ∀ C, PySem.W.nsIn K mainGlobals c = some (some (.ref C)) → Cls K C ∧ NoAttr K C f
noncomputable def pFld (c f : Str) (fo : M (Nat × List Nat)) : M (Nat × List Nat) := bnd fo fun r => fun ρ => match treeAt ρ r with
  | some (.ins c' fs) => if c' = c then (match keyIx f fs with
    | some j => some (.ok (r.1, r.2 ++ [j]) ρ)
    | none => none) else none
  | _ => none
section
variable {X : Cx} {T T1 T2 : List Nat} {W : WV} {K : Fg} {fp1 : M (Nat × List Nat)} {fa : M Rv} {fn : M Tr} {o e : Expr} {c f f' : Str} {pos pos' : Pos}
noncomputable def putFT (f : Str) (t : Tr) : List (Str × Tr) → List (Str × Tr)
  | [] => [(f, t)]
  | (g, x) :: r => if g = f then (g, t) :: r else (g, x) :: putFT f t r
noncomputable def fld1 (c f : Str) (T2 : List Nat) (tn : Tr) (r : Nat × List Nat) : MS := fun ρ => if !modeOk ρ r.1 then none else match treeAt ρ r with
  | some (.ins c' fs) => if c' = c ∧ fs.length < 1000 then some (.nx (putAt ρ r (.ins c (putFT f tn fs)))) else none
  | _ => none
noncomputable def sFldT (c f : Str) (g : M Tr) (fo : M (Nat × List Nat)) : MS := sE g fun t => sE fo (fld1 c f [] t)
noncomputable def isCls (c m : Str) (ρ : Rho) (i : Nat) : Bool := match ρ[i]? with
  | some (.own _ (.ins c' fs)) => decide (c' = c) && (keyIx m fs).isNone
  | _ => false
noncomputable def nMeth (c m : Str) (Ts : List Nat) (k : Nat) (G : Fn) (i : Nat) (fs : M (List Rv)) : M Tr := fun ρ => if isCls c m ρ i then bnd fs (fun xs => callR Ts k G (.o i :: xs)) ρ else none
end
section
variable {X : Cx} {T Ts : List Nat} {W : WV} {k m0 i : Nat} {g : Addr} {fd : FuncData} {ps : List Str} {G : Fn} {x c m m' : Str} {px apos pos : Pos} {e : Expr} {es : List Expr} {fs : M (List Rv)}
end
end VL

end

section
set_option Elab.async false
set_option linter.all false
set_option maxRecDepth 100000
set_option maxHeartbeats 2000000
namespace VL
open PySem PySem.Spec PyProof.Rows L2
section
variable {X : Cx} {CX : CXT} {k : Nat} {f C : Addr} {fd : FuncData} {ps : List Str} {sp : Sp} {E : Sg → XK} {x : Str} {p pos : Pos} {e : Expr} {es : List Expr} {t : TA}
end
section
variable {X : Cx} {T : List Nat} {W : WV} {k m0 : Nat} {g C : Addr} {fd : FuncData} {ps : List Str} {G : Fn} {x c : Str} {p pos : Pos} {e : Expr} {es : List Expr} {fs : M (List Rv)}
end
end VL

end

section
set_option Elab.async false
set_option linter.all false
set_option maxRecDepth 100000
set_option maxHeartbeats 2000000
namespace VL
open PySem PySem.Spec PyProof.Rows L2
section
variable {X : Cx} {T T1 T2 T3 : List Nat} {W : WV} {K : Fg} {fp1 : M (Nat × List Nat)} {fa : M Rv} {fn : M Tr} {o e : Expr} {pos p apos cpos : Pos}
noncomputable def nDictC (f : M (Nat × List Nat)) : M Tr := bnd f fun r => fun ρ => match treeAt ρ r with
  | some (.dk kvs) => (match dats kvs with
    | some ds => some (.ok (.dk (toT ds)) ρ)
    | none => none)
  | _ => none
theorem new_one {F H : Hp} {fp fp1 : FP} {σ : Sg} {ρ ρ1 : Rho} {F1 H1 : Hp} {t : Tr} {y : Addr} {ob : HO} (s1 : EStep K T F H σ ρ fp F1 H1 ρ1 fp1) (ny : H1 y = none) (tk : TrOk K F1 (upd H1 y ob) (.ref y) t [y]) : EStep K T F H σ ρ fp F1 (upd H1 y ob) ρ1 fp1 ∧ ∃ A, NewOk K H fp F1 (upd H1 y ob) fp1 (.ref y) t A :=
  ⟨s1.trans ((Grow.lay ob s1.env.sub ny).step s1.env), [y], tk, by simp, fun b hb => by rw [List.mem_singleton.mp hb]; exact .inl (s1.st.dom y ny), fun b hb z => by rw [List.mem_singleton.mp hb] at z; exact (s1.env.there z).1 ny⟩
noncomputable def popK1 (T2 : List Nat) (r : Nat × List Nat) (y : Rv) : MS := fun ρ => if T2.contains r.1 || !modeOk ρ r.1 then none else match y, treeAt ρ r with
  | .d kd, some (.dk kvs) => (match keyD kd, dats kvs with
    | some k, some ds => if (ds.any fun kv => decide (kv.1 = k)) then some (.nx (putAt ρ r (.dk (toT (ds.filter fun kv => decide (kv.1 ≠ k)))))) else none
    | _, _ => none)
  | _, _ => none
noncomputable def sPopK (T2 : List Nat) (f : M (Nat × List Nat)) (fk : M Rv) : MS := sE f fun r => fun ρ => if isDk (treeAt ρ r) then sE fk (popK1 T2 r) ρ else none
end
end VL

end

section
set_option Elab.async false
set_option linter.all false
set_option maxRecDepth 100000
set_option maxHeartbeats 2000000
namespace VL
open PySem PySem.Spec PyProof.Rows L2
section
variable {X : Cx} {T T1 T2 T3 : List Nat} {W : WV} {K : Fg} {fp1 : M (Nat × List Nat)} {fa : M Rv} {fn : M Tr} {o e k : Expr} {pos p apos cpos : Pos}
noncomputable def nListC (f : M (Nat × List Nat)) : M Tr := bnd f fun r => fun ρ => match treeAt ρ r with
  | some (.lst ts) => (match flat ts with
    | some ds => some (.ok (.lst (ds.map .dat)) ρ)
    | none => none)
  | _ => none
theorem vn_listC (hg : Gl X "list") (hm : X.mg "list" = none) (ha : VP X T W e fp1) (he : starEach [e] X.env = (false, eval e X.env) :: starEach [] X.env := by rfl) (hpl : (backTo pos (starEach [] X.env)).any (·.1) = false := by rfl) : VN X T W (.Call (.Name "list" p) [e] [] pos) (nListC fp1) :=
  pe_imp (pe_callTy call_list_of hg hm (by decide +kernel) (pa_cons ha pa_nil he) (by decide) (by decide) he hpl) fun σ H Q ⟨F, ρ, fp, o, E, q, P⟩ => by
    refine tv_bnd E q P (fun i hi => hi) fun r ρ1 v H1 F1 fq1 s1 r1 e1 P1 => ?_
    split at e1
    · rename_i ts ht
      split at e1
      · rename_i ds hds
        cases ok_inj e1
        obtain ⟨B, qB, _⟩ := place_get s1.env r1 ht
        have := flat_ok hds
        subst this
        cases qB with
        | @lst a vs _ _ h1 h2 h3 =>
          obtain ⟨_, h4⟩ := trs_dat' h3
          refine ⟨a, vs, rfl, .inl (SqL.of h1), fun y ny => ?_⟩
          obtain ⟨s2, n2⟩ := new_one (ob := .lst vs) (t := .lst (ds.map .dat)) s1 ny (.lst upd_same (s1.env.sub.free ny) (trs_dat h4))
          exact P _ _ F1 fq1 s2 n2
      · cases e1
    · cases e1
noncomputable def dtNil : M (List (Key × Tr)) := ret []
noncomputable def dtCons (k : Key) (f : M Tr) (g : M (List (Key × Tr))) : M (List (Key × Tr)) := bnd f fun t => bnd g fun kts => ret ((k, t) :: kts)
variable {keys : List (Option Expr)} {values : List Expr} {fs : M (List (Key × Tr))}
noncomputable def nDisp (fs : M (List (Key × Tr))) : M Tr := bnd fs fun kts => fun ρ => if decide (kts.length ≤ 15) && decide ((kts.map (·.1)).Nodup) then some (.ok (.dk kts) ρ) else none
end
end VL

end

section
set_option Elab.async false
set_option linter.all false
set_option maxRecDepth 100000
set_option maxHeartbeats 2000000
namespace VL
open PySem PySem.Spec PyProof.Rows L2
section
variable {κ : Type} [DecidableEq κ] {K : Fg}
noncomputable def putR {α : Type} (k : κ) (x : α) : List (κ × α) → List (κ × α)
  | [] => [(k, x)]
  | (g, y) :: r => if g = k then (g, x) :: r else (g, y) :: putR k x r
noncomputable def mergeR {α : Type} (xs more : List (κ × α)) : List (κ × α) := more.foldl (fun acc kx => putR kx.1 kx.2 acc) xs
end
section
variable {X : Cx} {T T1 T2 T3 : List Nat} {W : WV} {K : Fg} {fp1 : M (Nat × List Nat)} {fn : M Tr} {o e : Expr} {pos p apos cpos : Pos}
noncomputable def upd1 (T2 : List Nat) (r : Nat × List Nat) (tn : Tr) : MS := fun ρ => if T2.contains r.1 || !modeOk ρ r.1 then none else match treeAt ρ r, tn with
  | some (.dk kts), .dk us => if small (kts.length + us.length) && decide ((kts.map (·.1)).Nodup) then some (.nx (putAt ρ r (.dk (mergeR kts us)))) else none
  | _, _ => none
noncomputable def isDkk : Option Tr → Bool
  | some (.dk _) => true
  | _ => false
noncomputable def sUpd (T2 : List Nat) (f : M (Nat × List Nat)) (g : M Tr) : MS := sE f fun r => fun ρ => if isDkk (treeAt ρ r) then sE g (upd1 T2 r) ρ else none
end
end VL

end

section
set_option Elab.async false
set_option linter.all false
set_option maxRecDepth 100000
set_option maxHeartbeats 2000000
namespace VL
open PySem PySem.Spec PyProof.Rows L2
section
variable {X : Cx} {T T1 T2 T3 : List Nat} {W : WV} {K : Fg} {fp1 : M (Nat × List Nat)} {fn : M Tr} {o e : Expr} {pos p apos cpos : Pos}
theorem mv_step {F0 H0 F H : Hp} {σ : Sg} {ρ0 ρ : Rho} {fp0 fp : FP} {r : Nat × List Nat} {v : V} {t0 : Tr} (s1 : EStep K T F0 H0 σ ρ0 fp0 F H ρ fp) (hm : modeOk ρ r.1 = true)
    (pl : ∃ u m t t', sg σ r.1 = some u ∧ ρ[r.1]? = some (Sl.own m t) ∧ t.at r.2 = some t' ∧ pathV H u r.2 = some v) (ht : treeAt ρ r = some t0) :
    ∃ fp', EStep K (T ++ [r.1]) F0 H0 σ ρ0 fp0 F H (putAt ρ r .hole) fp' ∧ ∃ B, NewOk K H0 fp0 F H fp' v t0 B := by
  obtain ⟨u, m, t, t', h1, h2, h3, h4⟩ := pl
  have ht' : t.at r.2 = some t0 := by
    unfold treeAt at ht
    rw [h2] at ht
    exact ht
  have E := s1.env
  obtain ⟨u', e1, q⟩ := E.sl r.1 _ h2
  rw [h1] at e1; cases e1
  obtain ⟨v', pre, B, post, g1, g2, g3, g4⟩ := focus q ht'
  rw [h4] at g1; cases g1
  have hil : r.1 < ρ.length := (List.getElem?_eq_some_iff.mp h2).1
  have hnd := E.nd r.1
  rw [g2] at hnd
  obtain ⟨n1, n2, n3⟩ := List.nodup_append.mp hnd
  obtain ⟨n4, n5, n6⟩ := List.nodup_append.mp n2
  have ep : putAt ρ r .hole = ρ.set r.1 (.own m (t.put r.2 .hole)) := by
    unfold putAt
    rw [h2]
  have hpl : plainSl (.own m (t.put r.2 .hole)) = true := by
    have := mode_nb hm h2
    cases m <;> first | rfl | cases this
  have hml := (mode_of (r := []) hm h2).1
  have sub : ∀ {b}, b ∈ pre ++ ([] ++ post) → b ∈ fp r.1 := fun {b} hb => by
    rw [g2]
    rcases List.mem_append.mp hb with z | z
    · exact List.mem_append_left _ z
    · exact List.mem_append_right _ (List.mem_append_right _ z)
  have fsub : ∀ {j b}, b ∈ fset fp r.1 (pre ++ ([] ++ post)) j → b ∈ fp j := fun {j b} hb => by
    unfold fset at hb
    split at hb
    · rename_i z; rw [z]; exact sub hb
    · exact hb
  have newTr : TrOk K F H u (t.put r.2 .hole) (pre ++ ([] ++ post)) := (g4 F H .hole [] (Same.refl _) (fun b hb => ⟨rfl, (q.mem b (sub (hb.elim (fun z => List.mem_append_left _ z) fun z => List.mem_append_right _ (by simpa using z)))).2⟩) .hole).1
  have E2 : EnvOk K F H σ (ρ.set r.1 (.own m (t.put r.2 .hole))) (fset fp r.1 (pre ++ ([] ++ post))) := by
    refine ⟨E.sub, by rw [List.length_set]; exact E.len, fun j s hs => ?_, fun j hj => ?_, fun j => ?_, fun j l b x1 x2 => E.ap j l b (fsub x1) (fsub x2), E.tb, al_set E hil hpl⟩
    · by_cases hji : r.1 = j
      · rw [← hji] at hs ⊢
        rw [List.getElem?_set_self hil] at hs
        cases hs
        refine ⟨u, h1, ?_⟩
        unfold fset
        rw [if_pos rfl]
        exact newTr
      · rw [List.getElem?_set_ne hji] at hs
        unfold fset
        rw [if_neg (Ne.symm hji)]
        exact E.sl j s hs
    · by_cases hji : r.1 = j
      · rw [← hji] at hj
        exact absurd (List.getElem?_set_self hil) (hj m _)
      · unfold fset
        rw [if_neg (Ne.symm hji)]
        refine E.nil j fun m t z => hj m t ?_
        rw [List.getElem?_set_ne hji]
        exact z
    · unfold fset
      split
      · rw [List.nil_append]
        exact List.nodup_append.mpr ⟨n1, n5, fun x hx y hy => n3 x hx y (List.mem_append_right _ hy)⟩
      · exact E.nd j
  have s2 : EStep K (T ++ [r.1]) F H σ ρ fp F H (ρ.set r.1 (.own m (t.put r.2 .hole))) (fset fp r.1 (pre ++ ([] ++ post))) := by
    refine ⟨⟨E2, Same.refl _, fun _ h h' => absurd h h', fun _ h => h, fun _ _ h _ _ => h, fun b ⟨j, hb⟩ => .inl ⟨j, fsub hb⟩, fun j mj tj hj hmj => ?_, fun j tj hj => ?_⟩, fun j mj tj hj => ?_, fun j hj => ?_⟩
    · by_cases hji : r.1 = j
      · rw [← hji] at hj ⊢
        rw [h2] at hj; cases hj
        exact ⟨rfl, m, _, List.getElem?_set_self hil, hmj⟩
      · exact ⟨rfl, mj, tj, by rw [List.getElem?_set_ne hji]; exact hj, hmj⟩
    · have hji : r.1 ≠ j := fun z => by rw [← z, h2] at hj; cases hj; exact hml rfl
      refine ⟨rfl, by rw [List.getElem?_set_ne hji]; exact hj, ?_, fun _ _ => rfl⟩
      unfold fset
      rw [if_neg (Ne.symm hji)]
    · by_cases hji : r.1 = j
      · rw [← hji] at hj ⊢
        rw [h2] at hj; cases hj
        exact ⟨_, List.getElem?_set_self hil⟩
      · exact ⟨tj, by rw [List.getElem?_set_ne hji]; exact hj⟩
    · have hji : r.1 ≠ j := fun z => hj (List.mem_append_right _ (by simp [z]))
      refine ⟨List.getElem?_set_ne hji, ?_, fun _ _ => rfl⟩
      unfold fset
      rw [if_neg (Ne.symm hji)]
  rw [ep]
  refine ⟨_, (s1.sub fun i hi => List.mem_append_left _ hi).trans s2, B, g3, n4, fun b hb => ?_, fun b hb z => ?_⟩
  · exact (s1.st.own b ⟨r.1, by rw [g2]; exact List.mem_append_right _ (List.mem_append_left _ hb)⟩).symm
  · obtain ⟨j, hj⟩ := z
    have hbi : b ∈ fp r.1 := by rw [g2]; exact List.mem_append_right _ (List.mem_append_left _ hb)
    have e := E.ap j r.1 b (fsub hj) hbi
    subst e
    unfold fset at hj
    rw [if_pos rfl] at hj
    rcases List.mem_append.mp hj with w | w
    · exact n3 b w b (List.mem_append_left _ hb) rfl
    · exact n6 b hb b (by simpa using w) rfl
noncomputable def nMvP (Ts : List Nat) (f : M (Nat × List Nat)) : M Tr := bnd f fun r => fun ρ => if Ts.contains r.1 && modeOk ρ r.1 then (match treeAt ρ r with
  | some t => some (.ok t (putAt ρ r .hole))
  | none => none) else none
noncomputable def nPopT (Ts : List Nat) (f : M (Nat × List Nat)) : M Tr := bnd f fun r => fun ρ => if Ts.contains r.1 && modeOk ρ r.1 then (match treeAt ρ r with
  | some (.lst ts) => (match ts.getLast? with
    | some t => some (.ok t (putAt ρ r (.lst ts.dropLast)))
    | none => none)
  | _ => none) else none
theorem trs_snoc {F H : Hp} {t : Tr} : ∀ {us : List Tr} {vs : List V} {A : List Addr}, TrsOk K F H vs (us ++ [t]) A → ∃ ws w A1 A2, vs = ws ++ [w] ∧ A = A1 ++ A2 ∧ TrsOk K F H ws us A1 ∧ TrOk K F H w t A2
  | [], _, _, .cons q .nil => ⟨[], _, [], _, rfl, by simp, .nil, q⟩
  | u :: us, _, _, .cons q r => by
    obtain ⟨ws, w, A1, A2, e1, e2, k1, k2⟩ := trs_snoc r
    subst e1 e2
    exact ⟨_ :: ws, w, _ ++ A1, A2, rfl, by simp, .cons q k1, k2⟩
theorem put_twice : ∀ {p : List Nat} {t x y t0 : Tr}, t.at p = some t0 → (t.put p x).put p y = t.put p y
  | [], t, x, y, t0, h => by simp [Tr.put]
  | i :: p, t, x, y, t0, h => by
    simp only [Tr.at] at h
    cases hk : (kids t)[i]? with
    | none => rw [hk] at h; cases h
    | some k =>
      rw [hk] at h
      have ih := put_twice (x := x) (y := y) h
      simp only [Tr.put, hk, kids_set hk, ih]
      have ss : ∀ {κ : Type} (us : List (κ × Tr)) (j : Nat) (a b : Tr), setSnd (setSnd us j a) j b = setSnd us j b := fun us => by
        induction us with
        | nil => intro j a b; cases j <;> rfl
        | cons u us ih =>
          intro j a b
          cases j with
          | zero => rfl
          | succ j => simp only [setSnd]; rw [ih]
      cases t with
      | lst us => simp [setKid]
      | tup us => simp [setKid]
      | dk us => simp only [setKid, ss]
      | dt us => simp only [setKid, ss]
      | ins c us => simp only [setKid, ss]
      | dat _ => simp [kids] at hk
      | fk _ => simp [kids] at hk
      | ft _ => simp [kids] at hk
      | raw _ => simp [kids] at hk
      | sd _ => simp [kids] at hk
      | hole => simp [kids] at hk
theorem vn_popT {Ts : List Nat} (ho : VP X T W o fp1) (hbase : attributeBase o "pop" X.env (eval o X.env) = eval o X.env := by rfl) (hline : (apos.endLine == cpos.line) = true := by rfl) : VN X (T ++ Ts) W (.Call (.Attribute o "pop" apos) [] [] cpos) (nPopT Ts fp1) :=
  pe_imp (pe_bm0 PySem.F.plainAttrs_list PySem.F.slot_list_pop PySem.F.type_list_pop mt_pop ho hbase hline) fun σ H Q ⟨F, ρ, fp, ou, E, q, P⟩ => by
    refine tv_bnd E q P (fun i hi => List.mem_append_left _ hi) fun r ρ1 v H1 F1 fq1 s1 r1 e1 P1 => ?_
    split at e1
    · rename_i hc
      rw [Bool.and_eq_true] at hc
      split at e1
      · rename_i ts ht
        split at e1
        · rename_i t hlast
          cases ok_inj e1
          have ets : ts = ts.dropLast ++ [t] := by
            rcases List.eq_nil_or_concat ts with z | ⟨us, u, z⟩
            · subst z; cases hlast
            · subst z
              rw [List.concat_eq_append] at hlast ⊢
              rw [List.getLast?_concat] at hlast
              cases hlast
              rw [List.dropLast_concat]
          have hlen : 0 < ts.length := by rw [ets]; simp
          have hdl : ts.dropLast.length = ts.length - 1 := by simp
          obtain ⟨B, qB, hB⟩ := place_get s1.env r1 ht
          cases qB with
          | @lst a vs _ B0 f1 f2 f3 =>
            rw [ets] at f3
            obtain ⟨ws, w, A1, A2, rfl, rfl, k1, k2⟩ := trs_snoc f3
            have hwl : ws.length = ts.length - 1 := by rw [k1.len, hdl]
            refine ⟨place_list s1.env r1 (by rw [ht]; rfl), a, ws ++ [w], w, rfl, rfl, f1, by simp, ?_⟩
            have hkid : treeAt ρ1 (r.1, r.2 ++ [ts.length - 1]) = some t := by
              obtain ⟨u, m, t1, t', h1, h2, h3, h4⟩ := r1
              unfold treeAt at ht ⊢
              rw [h2] at ht ⊢
              simp only at ht ⊢
              rw [at_app ht]
              show ts[ts.length - 1]? = some t
              rw [← List.getLast?_eq_getElem?]
              exact hlast
            have pl2 := place_kid (K := X.K) r1 ht (j := ts.length - 1) (w := w) (by show ts.length - 1 < ts.length; omega) (by
              simp only [kidsV, f1]
              rw [← hwl]
              simp)
            obtain ⟨fp2, s2, B2, n2⟩ := mv_step (r := (r.1, r.2 ++ [ts.length - 1])) s1 hc.2 pl2 hkid
            obtain ⟨u, m, t1, t', h1, h2, h3, h4⟩ := r1
            have ht1 : t1.at r.2 = some (.lst ts) := by
              unfold treeAt at ht
              rw [h2] at ht
              exact ht
            have eput : putAt ρ1 (r.1, r.2 ++ [ts.length - 1]) .hole = ρ1.set r.1 (.own m (t1.put r.2 (.lst (ts.dropLast ++ [.hole])))) := by
              unfold putAt
              simp only [h2]
              rw [put_app ht1]
              congr 3
              show Tr.put (.lst ts) [ts.length - 1] .hole = _
              have e1 : (kids (.lst ts))[ts.length - 1]? = some t := by
                show ts[ts.length - 1]? = some t
                rw [← List.getLast?_eq_getElem?]; exact hlast
              simp only [Tr.put, e1, setKid]
              congr 1
              conv => lhs; rw [ets]
              simp
            rw [eput] at s2
            have hil : r.1 < ρ1.length := (List.getElem?_eq_some_iff.mp h2).1
            have hm2 : modeOk (ρ1.set r.1 (.own m (t1.put r.2 (.lst (ts.dropLast ++ [.hole]))))) r.1 = true := by
              have := hc.2
              unfold modeOk at this ⊢
              rw [h2] at this
              rw [List.getElem?_set_self hil]
              cases m <;> first | rfl | cases this
            have g2 := List.getElem?_set_self (l := ρ1) (a := Sl.own m (t1.put r.2 (.lst (ts.dropLast ++ [.hole])))) hil
            obtain ⟨fp3, s3, _⟩ := mut_step (A := []) (o := .lst ws) (t'' := .lst ts.dropLast) (EStep.refl (T := []) s2.env) g2 (mode_of hm2 g2) h1 (put_at ht1) h4 (fun b hb => nomatch hb) List.nodup_nil (fun b hb => nomatch hb) fun B1 q1 nB1 _ => by
              cases q1 with
              | @lst a _ _ B3 x1 x2 x3 =>
                rw [f1] at x1; cases x1
                obtain ⟨ws', w', C1, C2, e1, rfl, y1, y2⟩ := trs_snoc x3
                obtain ⟨e3, e4⟩ := List.append_inj' e1 rfl
                subst e3
                have nd := List.nodup_cons.mp nB1
                have nd2 := List.nodup_append.mp nd.2
                refine ⟨List.mem_cons_self, a :: C1, .lst upd_same x2 (y1.move (Same.refl _) fun b hb => ⟨upd_ne fun z => by subst z; exact nd.1 (List.mem_append_left _ hb), (y1.mem b hb).2⟩), List.nodup_cons.mpr ⟨fun z => nd.1 (List.mem_append_left _ z), nd2.1⟩, fun b hb => .inl ?_⟩
                rcases List.mem_cons.mp hb with z | z
                · rw [z]; exact List.mem_cons_self
                · exact List.mem_cons_of_mem _ (List.mem_append_left _ z)
            rw [List.set_set, put_twice ht1] at s3
            have efin : putAt ρ1 r (.lst ts.dropLast) = ρ1.set r.1 (.own m (t1.put r.2 (.lst ts.dropLast))) := by
              unfold putAt
              rw [h2]
            rw [List.dropLast_concat]
            refine P w _ F1 fp3 ?_ ⟨B2, n2.keep s3.st⟩
            rw [efin]
            refine (s2.sub fun i hi => ?_).trans (s3.sub fun i hi => ?_)
            · rcases List.mem_append.mp hi with z | z
              · exact List.mem_append_left _ z
              · rw [List.mem_singleton.mp z]; exact List.mem_append_right _ (List.contains_iff_mem.mp hc.1)
            · have hi' : i = r.1 := by simpa using hi
              rw [hi']; exact List.mem_append_right _ (List.contains_iff_mem.mp hc.1)
        · cases e1
      · cases e1
    · cases e1
end
end VL

end

section
set_option Elab.async false
set_option linter.all false
set_option maxRecDepth 100000
set_option maxHeartbeats 2000000
namespace VL
open PySem PySem.Spec PyProof.Rows L2
section
variable {X : Cx} {T T1 T2 T3 : List Nat} {W : WV} {K : Fg} {fp1 : M (Nat × List Nat)} {fn : M Tr} {o e : Expr} {pos p apos cpos : Pos}
noncomputable def asSl : Tr → Sl
  | .dat d => .val d
  | t => .own .free t
theorem asSl_ok {F H : Hp} {v : V} {t : Tr} {A : List Addr} (h : TrOk K F H v t A) : SlOk K F H (some v) A (asSl t) ∧ (isOwn (asSl t) = false → A = []) ∧ plainSl (asSl t) = true := by
  cases t with
  | dat d => cases h with | dat h => exact ⟨⟨v, rfl, h⟩, fun _ => rfl, rfl⟩
  | _ => exact ⟨⟨v, rfl, h⟩, (fun z => nomatch z), rfl⟩
noncomputable def sUnp (i j : Nat) (f : M Tr) : MS := sE f fun t => fun ρ => match t with
  | .tup [t1, t2] => (match setSl ρ i (asSl t1) with
    | some ρ1 => (setSl ρ1 j (asSl t2)).map .nx
    | none => none)
  | _ => none
theorem vs_unp {i j : Nat} {tg : Expr} (he : VN X T W e fn) (hg : PG X tg (gTup X.K 2 (gCons (gName i) (gCons (gName j) gNil)))) (hs : swapsWithSole [tg] e pos.line X.env = pure false := by rfl) (hw : swappedStores [tg] e X.env = pure none := by rfl)
    (h1 : (assignEach [tg] X.env).map (·.2) = [assign tg X.env] := by rfl) : VS X W (.Assign [tg] e pos) (sUnp i j fn) := by
  refine ps_imp (ps_asg he hg hs hw h1) fun D σ H ⟨F, ρ, fp, o, E, e, P⟩ => ?_
  refine tv_st E e P fun t ρ1 v H1 F1 fq1 s1 r1 e1 P1 => ?_
  obtain ⟨A, n⟩ := r1
  split at e1
  · rename_i t1 t2
    split at e1
    · rename_i ρ2 h2
      obtain ⟨ρ3, h3, rfl⟩ := map_some e1
      obtain ⟨n1, n2, n3, n4⟩ := n
      cases n1 with
      | @tup a vs _ B x1 x2 x3 =>
        cases x3 with
        | @cons v1 _ _ _ A1 _ y1 y2 =>
          cases y2 with
          | @cons v2 _ _ _ A2 _ z1 z2 =>
            cases z2
            refine ⟨a, [v1, v2], rfl, SqT.of x1, rfl, v1, [v2], rfl, v2, [], rfl, rfl, ?_⟩
            have nd := List.nodup_cons.mp n2
            have nd2 := List.nodup_append.mp nd.2
            obtain ⟨a1, a2, a3⟩ := asSl_ok y1
            have in1 : ∀ {b}, b ∈ A1 → b ∈ a :: (A1 ++ (A2 ++ [])) := fun hb => List.mem_cons_of_mem _ (List.mem_append_left _ hb)
            have in2 : ∀ {b}, b ∈ A2 → b ∈ a :: (A1 ++ (A2 ++ [])) := fun hb => List.mem_cons_of_mem _ (List.mem_append_right _ (List.mem_append_left _ hb))
            have s2 := set_stepW (s1.st) h2 a1 nd2.1 (fun b hb => n4 b (in1 hb)) a2 (fun b hb => n3 b (in1 hb)) a3
            have nA2 : A2.Nodup := (List.nodup_append.mp nd2.2.1).1
            obtain ⟨b1, b2, b3⟩ := asSl_ok z1
            have s3 := set_stepW s2 h3 b1 nA2 (fun b hb z => by
              rcases z.fset with w | w
              · exact nd2.2.2 b w b (List.mem_append_left _ hb) rfl
              · exact n4 b (in2 hb) w) b2 (fun b hb => n3 b (in2 hb)) b3
            exact P _ H1 F1 _ s3
    · cases e1
  · cases e1
noncomputable def copies : List Tr → Option (List (List (Key × PyData)))
  | [] => some []
  | .dk kvs :: ts => (match dats kvs, copies ts with
    | some ds, some r => some (ds :: r)
    | _, _ => none)
  | _ :: _ => none
noncomputable def copyT (dss : List (List (Key × PyData))) : List Tr := dss.map fun ds => .dk (toT ds)
noncomputable def nCopyDs (v : Nat) (f : M (Nat × List Nat)) : M Tr := bnd f fun r => fun ρ => match treeAt ρ r with
  | some (.lst ts) => (match copies ts with
    | some dss => if decide (v < ρ.length) && small dss.length then some (.ok (.lst (copyT dss)) ρ) else none
    | none => none)
  | _ => none
end
end VL

end

section
set_option Elab.async false
set_option linter.all false
set_option maxRecDepth 100000
set_option maxHeartbeats 1000000
namespace VL
open PySem PySem.Spec PyProof.Rows L2
section
variable {X : Cx} {T T1 T2 : List Nat} {W : WV} {K : Fg} {pos : Pos} {e : Expr}
variable {fp1 : M (Nat × List Nat)}
end
end VL

end

section
set_option Elab.async false
set_option linter.all false
set_option maxRecDepth 100000
set_option maxHeartbeats 1000000
namespace VL
open PySem PySem.Spec PyProof.Rows L2
section
variable {X : Cx} {T T1 T2 : List Nat} {W : WV} {K : Fg} {pos p : Pos} {a b e : Expr} {fp1 : M (Nat × List Nat)} {fn : M Tr}
noncomputable def cEmp (f : M (Nat × List Nat)) (g : M Tr) : M Bool := bnd f fun r => bnd g fun tn => fun ρ => match treeAt ρ r, tn with
  | some (.lst ts), .lst [] => some (.ok ts.isEmpty ρ)
  | _, _ => none
noncomputable def cLenP (f : M (Nat × List Nat)) : M Rv := bnd f fun r => fun ρ => match treeAt ρ r with
  | some (.lst ts) => some (.ok (.d (.int ts.length)) ρ)
  | _ => none
end
mutual
noncomputable def noL : PyData → Bool
  | .list _ => false
  | .dict _ => false
  | .tuple ds => noLs ds
  | _ => true
noncomputable def noLs : List PyData → Bool
  | [] => true
  | d :: ds => noL d && noLs ds
end
mutual
noncomputable def noLt : Tr → Bool
  | .dat d => noL d
  | .lst ts => noLts ts
  | .tup ts => noLts ts
  | _ => false
noncomputable def noLts : List Tr → Bool
  | [] => true
  | t :: ts => noLt t && noLts ts
end
noncomputable def cutF (F : Hp) (L : List Addr) : Hp := fun b => if b ∈ L then none else F b
section
variable {K : Fg} {F H : Hp} {L : List Addr}
theorem cutF_out {b : Addr} (h : b ∉ L) : cutF F L b = F b := if_neg h
theorem cutF_in {b : Addr} (h : b ∈ L) : cutF F L b = none := if_pos h
mutual
theorem dq_cut (hL : ∀ b ∈ L, ∃ vs, F b = some (.lst vs)) : ∀ (d : PyData) (v : V), noL d = true → Dq K F v d → Dq K (cutF F L) v d
  | .none, _, _, h => by cases h; exact .non
  | .bool b, _, _, h => by cases h; exact .bl b
  | .int i, _, _, h => by cases h; exact .int i
  | .str x, _, _, h => by cases h; exact .str x
  | .list ds, _, c, h => by simp [noL] at c
  | .tuple ds, _, c, h => by
    cases h with
    | tups hs ha =>
      refine .tups ?_ (dqAll_cut hL ds _ (by simpa [noL] using c) ha)
      rcases hs with hs | hs
      · refine .inl ?_
        rw [cutF_out fun z => by obtain ⟨vs, e⟩ := hL _ z; rw [e] at hs; cases hs]
        exact hs
      · exact .inr hs
  | .dict _, _, c, _ => by simp [noL] at c
theorem dqAll_cut (hL : ∀ b ∈ L, ∃ vs, F b = some (.lst vs)) : ∀ (ds : List PyData) (vs : List V), noLs ds = true → DqAll K F vs ds → DqAll K (cutF F L) vs ds
  | [], _, _, h => by cases h; exact .nil
  | d :: ds, _, c, h => by
    have c' : noL d = true ∧ noLs ds = true := by simpa [noLs] using c
    cases h with
    | cons h1 h2 => exact .cons (dq_cut hL d _ c'.1 h1) (dqAll_cut hL ds _ c'.2 h2)
end
mutual
theorem tr_cut (hL : ∀ b ∈ L, ∃ vs, F b = some (.lst vs)) : ∀ {v : V} {t : Tr} {A : List Addr}, TrOk K F H v t A → noLt t = true → TrOk K (cutF F L) H v t A
  | _, _, _, .dat d, c => .dat (dq_cut hL _ _ (by simpa [noLt] using c) d)
  | _, _, _, @TrOk.tup _ _ _ a vs ts A e f r, c => by
    refine .tup e ⟨?_, f.2⟩ (trs_cut hL r (by simpa [noLt] using c))
    unfold cutF; split
    · rfl
    · exact f.1
  | _, _, _, @TrOk.lst _ _ _ a vs ts A e f r, c => by
    refine .lst e ?_ (trs_cut hL r (by simpa [noLt] using c))
    unfold cutF; split
    · rfl
    · exact f
  | _, _, _, .dk e f k r, c => by simp [noLt] at c
  | _, _, _, .dt e f k r, c => by simp [noLt] at c
  | _, _, _, .ins e f kc k r, c => by simp [noLt] at c
  | _, _, _, .fk e f r, c => by simp [noLt] at c
  | _, _, _, .ft e f r, c => by simp [noLt] at c
  | _, _, _, .raw, c => by simp [noLt] at c
  | _, _, _, .sd _ _, c => by simp [noLt] at c
  | _, _, _, .hole, c => by simp [noLt] at c
theorem trs_cut (hL : ∀ b ∈ L, ∃ vs, F b = some (.lst vs)) : ∀ {vs : List V} {ts : List Tr} {A : List Addr}, TrsOk K F H vs ts A → noLts ts = true → TrsOk K (cutF F L) H vs ts A
  | _, _, _, .nil, _ => .nil
  | _, _, _, @TrsOk.cons _ _ _ v vs t ts A B q r, c => by
    have c' : noLt t = true ∧ noLts ts = true := by simpa [noLts] using c
    exact .cons (tr_cut hL q c'.1) (trs_cut hL r c'.2)
end
end
inductive LA where
  | d (x : PyData)
  | p (r : Nat × List Nat)
noncomputable def LAOk (K : Fg) (F H : Hp) (σ : Sg) (ρ : Rho) (v : V) : LA → Prop
  | .d x => Dq K F v x
  | .p r => ∃ u m t t', sg σ r.1 = some u ∧ ρ[r.1]? = some (Sl.own m t) ∧ t.at r.2 = some t' ∧ pathV H u r.2 = some v
inductive LAsOk (K : Fg) (F H : Hp) (σ : Sg) (ρ : Rho) : List V → List LA → Prop
  | nil : LAsOk K F H σ ρ [] []
  | cons {v vs r rs} : LAOk K F H σ ρ v r → LAsOk K F H σ ρ vs rs → LAsOk K F H σ ρ (v :: vs) (r :: rs)
noncomputable def rlL (K : Fg) : Rl K (List LA) (List V) := ⟨fun _ _ F' H' _ σ ρ' v r => LAsOk K F' H' σ ρ' v r, fun _ h => h⟩
noncomputable def VLs (X : Cx) (W : WV) (es : List Expr) (f : M (List LA)) : Prop := PA X es (fun σ H Q => TVg [] W (rlL X.K) f σ H Q)
noncomputable def lNil : M (List LA) := ret []
noncomputable def lD (f : M Rv) (g : M (List LA)) : M (List LA) := bnd f fun x => bnd g fun ls => fun ρ => match x with
  | .d d => some (.ok (.d d :: ls) ρ)
  | _ => none
noncomputable def lP (f : M (Nat × List Nat)) (g : M (List LA)) : M (List LA) := bnd f fun r => bnd g fun ls => ret (.p r :: ls)
noncomputable def lendV (ρ : Rho) : List LA → Option (List PyData)
  | [] => some []
  | .d x :: ls => (lendV ρ ls).map (x :: ·)
  | .p r :: ls => match treeAt ρ r with
    | some (.lst ts) => (match flat ts with
      | some ds => (lendV ρ ls).map (.list ds :: ·)
      | none => none)
    | _ => none
noncomputable def callL (m : Nat) (f : Fn) (ls : List LA) : M Tr := fun ρ => match lendV ρ ls with
  | some ds => if ds.length = m then (match f (ds.map .val) with
    | some (.ret t, _) => if noLt t then some (.ok t ρ) else none
    | _ => none) else none
  | none => none
noncomputable def nLend (m : Nat) (f : Fn) (fs : M (List LA)) : M Tr := bnd fs (callL m f)
section
variable {X : Cx} {T T1 T2 : List Nat} {W : WV} {K : Fg} {pos p : Pos} {e : Expr} {es : List Expr} {fp1 : M (Nat × List Nat)} {fa : M Rv} {fs : M (List LA)}
theorem LAOk.step {F H F1 H1 : Hp} {σ : Sg} {ρ ρ1 : Rho} {fp fp1 : FP} {v : V} (E : EnvOk K F H σ ρ fp) (s : EStep K [] F H σ ρ fp F1 H1 ρ1 fp1) : ∀ {r : LA}, LAOk K F H σ ρ v r → LAOk K F1 H1 σ ρ1 v r
  | .d _, h => dq_mono s.st.fr _ _ h
  | .p r, h => place_step E s (fun z => nomatch z) h
theorem vl_nil : VLs X W [] lNil := pa_imp pa_nil fun σ H Q ⟨F, ρ, fp, o, E, e, P⟩ => by
  cases ok_inj e
  exact P _ H F fp (.refl E) .nil
theorem vl_d (ha : VE X [] W e fa) (hb : VLs X W es fs) (hs : starEach (e :: es) X.env = (false, eval e X.env) :: starEach es X.env := by rfl) : VLs X W (e :: es) (lD fa fs) :=
  pa_imp (pa_cons ha hb hs) fun σ H Q ⟨F, ρ, fp, o, E, e, P⟩ => by
    refine tv_bnd E e P (fun i hi => hi) fun x ρ1 v H1 F1 fp1 s1 r1 e1 P1 => ?_
    refine tv_bnd s1.env e1 P1 (fun i hi => hi) fun y ρ2 w H2 F2 fp2 s2 r2 e2 P2 => ?_
    split at e2
    · rename_i d
      cases ok_inj e2
      exact P2 _ H2 F2 fp2 (.refl s2.env) (.cons (LAOk.step (r := .d d) s1.env s2 r1) r2)
    · cases e2
theorem vl_p (ha : VP X [] W e fp1) (hb : VLs X W es fs) (hs : starEach (e :: es) X.env = (false, eval e X.env) :: starEach es X.env := by rfl) : VLs X W (e :: es) (lP fp1 fs) :=
  pa_imp (pa_cons ha hb hs) fun σ H Q ⟨F, ρ, fp, o, E, e, P⟩ => by
    refine tv_bnd E e P (fun i hi => hi) fun x ρ1 v H1 F1 fp1 s1 r1 e1 P1 => ?_
    refine tv_bnd s1.env e1 P1 (fun i hi => hi) fun y ρ2 w H2 F2 fp2 s2 r2 e2 P2 => ?_
    cases ok_inj e2
    exact P2 _ H2 F2 fp2 (.refl s2.env) (.cons (LAOk.step (r := .p x) s1.env s2 r1) r2)
end
section
variable {X : Cx} {W : WV} {k m : Nat} {f : Addr} {fd : FuncData} {ps : List Str} {F : Fn} {x : Str} {p pos : Pos} {e : Expr} {es : List Expr} {fs : M (List LA)}
end
end VL

end

section
set_option Elab.async false
set_option linter.all false
set_option maxRecDepth 100000
set_option maxHeartbeats 1000000
namespace VL
open PySem PySem.Spec PyProof.Rows L2
section
variable {X : Cx} {T T1 T2 : List Nat} {W : WV} {K : Fg} {pos : Pos} {e : Expr}
theorem grow_key2 {F H : Hp} {q : Addr} {k : List Key} (s : Same F H) (t : TbOk K F H) (hq : H q = some (.tup (k.map kV))) : Grow2 K F H (upd F q (.tup (k.map kV))) H := by
  have sF : Same F (upd F q (.tup (k.map kV))) := fun b o e => by
    by_cases z : b = q
    · subst z
      have := s b o e
      rw [hq] at this
      rw [upd_same]
      exact this
    · rw [upd_ne z]; exact e
  have sH : Same (upd F q (.tup (k.map kV))) H := fun b o e => by
    by_cases z : b = q
    · subst z
      rw [upd_same] at e
      rw [hq]
      exact e
    · rw [upd_ne z] at e; exact s b o e
  refine ⟨fun b o h _ => h, fun b h => h, sF, sH, fun b h h' => ?_, t.mono sF fun P ps h1 h2 => ⟨?_, rfl⟩⟩
  · by_cases z : b = q
    · subst z; exact .inr (.inl ⟨k, hq⟩)
    · rw [upd_ne z] at h'; exact absurd h h'
  · rw [upd_ne fun z => by subst z; rw [hq] at h1; cases h1]
    exact h2
end
end VL

end

section
set_option Elab.async false
set_option linter.all false
set_option maxRecDepth 100000
set_option maxHeartbeats 1000000
namespace VL
open PySem PySem.Spec PyProof.Rows L2 PySem.W

section
variable {X : Cx} {pins : List (Addr × Obj)} {σ : L2.St} {H : Hp} {s : Shared}
end
section
variable {X : Cx} {te : TE} {e : Expr} {i k : Nat} {c P : Addr} {params : Arguments} {scope : Scope} {p pos lpos kpos p1 p2 p3 p4 p5 p6 p7 p8 p10 : Pos} {k6 k9 : Nat}
end
end VL

end

section
set_option Elab.async false
set_option linter.all false
set_option maxRecDepth 100000
set_option maxHeartbeats 1000000
namespace VL
open PySem PySem.Spec PyProof.Rows L2
section
variable {X : Cx} {T T1 T2 T3 : List Nat} {W : WV} {K : Fg} {fp1 : M (Nat × List Nat)} {fn : M Tr} {fa : M Rv} {o e : Expr} {pos p : Pos}
noncomputable def isAlOf (i : Nat) : Sl → Bool
  | .al k _ => decide (k = i)
  | _ => false
noncomputable def noAl (ρ : Rho) (i : Nat) : Bool := ρ.all fun s => !isAlOf i s
noncomputable def mkAl (j : Nat) (r : Nat × List Nat) (ρ : Rho) : Option Rho := match ρ[r.1]? with
  | some (.own .pin t) => (match t.at r.2, setSl ρ j .no with
    | some _, some ρ1 => if decide (r.1 ≠ j) && noAl ρ1 r.1 then some ((ρ1.set r.1 (.own (.bor r.2) t)).set j (.al r.1 r.2)) else none
    | _, _ => none)
  | _ => none
noncomputable def sAl (j : Nat) (f : M (Nat × List Nat)) : MS := sE f fun r => fun ρ => (mkAl j r ρ).map .nx
noncomputable def pAl (j : Nat) : M (Nat × List Nat) := fun ρ => match ρ[j]? with
  | some (.al i p) => (match ρ[i]? with
    | some (.own (.bor q) _) => if q = p then some (.ok (i, p) ρ) else none
    | _ => none)
  | _ => none
noncomputable def unbor (ρ : Rho) (i : Nat) : Rho := match ρ[i]? with
  | some (.own (.bor _) t) => ρ.set i (.own .pin t)
  | _ => ρ
noncomputable def sEd (i : Nat) (g : MS) : MS := fun ρ => g (unbor ρ i)
noncomputable def modeA (ρ : Rho) (r : Nat × List Nat) : Bool := match ρ[r.1]? with
  | some (.own .lock _) => false
  | some (.own (.bor p) _) => p.isPrefixOf r.2
  | some (.own _ _) => true
  | _ => false
noncomputable def dPutA1 (T2 : List Nat) (d : PyData) (r : Nat × List Nat) (y : Rv) : MS := fun ρ => if T2.contains r.1 || !modeA ρ r then none else match y, treeAt ρ r with
  | .d kd, some (.dk kvs) => (match keyD kd, dats kvs with
    | some k, some ds => if small (ds.length + 1) then some (.nx (putAt ρ r (.dk (toT (putP ds k d))))) else none
    | _, _ => none)
  | _, _ => none
noncomputable def sDPutA (T2 : List Nat) (fe : M Rv) (f : M (Nat × List Nat)) (fk : M Rv) : MS := sE fe fun x => match x with
  | .d d => sE f fun r => sE fk (dPutA1 T2 d r)
  | .o _ => fun _ => none
variable {fe fk : M Rv} {i : Expr} {pos' : Pos} {T4 : List Nat}
end
end VL

end

section
set_option Elab.async false
set_option linter.all false
set_option maxRecDepth 100000
set_option maxHeartbeats 1000000
namespace VL
open PySem PySem.Spec PyProof.Rows L2
noncomputable def isAl : Option Sl → Bool
  | some (.al _ _) => true
  | _ => false
noncomputable def killA (ρ : Rho) (i j : Nat) (t : Tr) : Rho := (ρ.set i (.own .pin t)).set j .no
noncomputable def backA (ρ : Rho) (i : Nat) (p : List Nat) : Option Rho := match ρ[i]? with
  | some (.own _ t) => if noAl ρ i then some (ρ.set i (.own (.bor p) t)) else none
  | _ => none
noncomputable def callK (Ts : List Nat) (m : Nat) (f : Fn) (i j : Nat) (rs : List Rv) : M Tr := fun ρ => match ρ[i]? with
  | some (.own (.bor p) t) => if isAl ρ[j]? then (match callR Ts m f rs (killA ρ i j t) with
    | some (.ok r ρ1) => (match backA ρ1 i p with
      | some ρ2 => some (.ok r ρ2)
      | none => none)
    | some (.ex c ρ1) => (match backA ρ1 i p with
      | some ρ2 => some (.ex c ρ2)
      | none => none)
    | none => none) else none
  | _ => none
section
variable {K : Fg} {F H : Hp} {σ : Sg} {ρ : Rho} {fp : FP} {i j : Nat} {p : List Nat} {t : Tr}
end
section
variable {X : Cx} {T : List Nat} {W : WV} {k m : Nat} {f : Addr} {fd : FuncData} {ps : List Str} {F : Fn} {Ts : List Nat} {i j : Nat}
end
noncomputable def nMethK (c m : Str) (Ts : List Nat) (k : Nat) (G : Fn) (i j : Nat) (fs : M (List Rv)) : M Tr := fun ρ => if isCls c m ρ i then bnd fs (fun xs => callK Ts k G i j (.o i :: xs)) ρ else none
section
variable {X : Cx} {T Ts : List Nat} {W : WV} {k m0 i : Nat} {g : Addr} {fd : FuncData} {ps : List Str} {G : Fn} {x c m m' : Str} {px apos pos : Pos} {e : Expr} {es : List Expr} {fs : M (List Rv)}
end
end VL

end

section
set_option Elab.async false
set_option linter.all false
set_option maxRecDepth 100000
set_option maxHeartbeats 1000000
namespace VL
open PySem PySem.Spec PyProof.Rows L2
section
variable {X : Cx} {T T1 T2 T3 T4 : List Nat} {W : WV} {K : Fg} {fp1 : M (Nat × List Nat)} {fn : M Tr} {fa fk : M Rv} {o e i : Expr} {pos pos' p : Pos}
noncomputable def pKey (T2 : List Nat) (f : M (Nat × List Nat)) (g : M Rv) : M (Nat × List Nat) := bnd f fun r => bnd g fun y => fun ρ => if T2.contains r.1 then none else match treeAt ρ r, y with
  | some (.dk kvs), .d d => (match keyD d with
    | some k => (match keyIx k kvs with
      | some j => some (.ok (r.1, r.2 ++ [j]) ρ)
      | none => none)
    | none => none)
  | _, _ => none
noncomputable def keyT1 (T2 : List Nat) (tn : Tr) (r : Nat × List Nat) (y : Rv) : MS := fun ρ => if T2.contains r.1 || !modeA ρ r then none else match y, treeAt ρ r with
  | .d kd, some (.dk kts) => (match keyD kd with
    | some k => if small (kts.length + 1) && decide ((kts.map (·.1)).Nodup) then some (.nx (putAt ρ r (.dk (putR k tn kts)))) else none
    | none => none)
  | _, _ => none
noncomputable def sKeyT (T2 : List Nat) (g : M Tr) (f : M (Nat × List Nat)) (fk : M Rv) : MS := sE g fun tn => sE f fun r => sE fk (keyT1 T2 tn r)
end
end VL

end

section
set_option Elab.async false
set_option linter.all false
set_option maxRecDepth 100000
set_option maxHeartbeats 1000000
namespace VL
open PySem PySem.Spec PyProof.Rows L2
section
variable {X : Cx} {T T1 T2 T3 T4 : List Nat} {W : WV} {K : Fg} {fp1 : M (Nat × List Nat)} {fn : M Tr} {fa fk : M Rv} {o e i a b : Expr} {pos pos' p : Pos}
noncomputable def shr : Tr → Tr
  | .dat d => .dat d
  | .sd d => .sd d
  | _ => .hole
noncomputable def shrK (kts : List (Key × Tr)) : List (Key × Tr) := kts.map fun p => (p.1, shr p.2)
noncomputable def nCatMv (Ts T2 : List Nat) (f : M (Nat × List Nat)) (g : M Tr) : M Tr := bnd f fun r => bnd g fun tn => fun ρ => if !T2.contains r.1 && (Ts.contains r.1 && modeOk ρ r.1) then (match treeAt ρ r, tn with
  | some (.lst ts), .lst us => if small (ts.length + us.length) then some (.ok (.lst (ts ++ us)) (putAt ρ r .hole)) else none
  | _, _ => none) else none
end
end VL

end

section
set_option Elab.async false
set_option linter.all false
set_option maxRecDepth 100000
set_option maxHeartbeats 1000000
namespace VL
open PySem PySem.Spec PyProof.Rows L2
section
variable {X : Cx} {T T1 T2 T3 T4 : List Nat} {W : WV} {K : Fg} {fp1 : M (Nat × List Nat)} {fn : M Tr} {fa fk : M Rv} {o e i a b : Expr} {pos pos' p : Pos}
noncomputable def copiesM : List Tr → Option (List (List (Key × Tr)))
  | [] => some []
  | .dk kts :: ts => (match copiesM ts with
    | some r => some (kts :: r)
    | none => none)
  | _ :: _ => none
noncomputable def copyM (dss : List (List (Key × Tr))) : List Tr := dss.map fun ds => .dk (shrK ds)
noncomputable def nCopyM (v : Nat) (f : M (Nat × List Nat)) : M Tr := bnd f fun r => fun ρ => match treeAt ρ r with
  | some (.lst ts) => (match copiesM ts with
    | some dss => if decide (v < ρ.length) && small dss.length then some (.ok (.lst (copyM dss)) ρ) else none
    | none => none)
  | _ => none
noncomputable def cCmpP (g : PyData → PyData → Option Bool) (T2 : List Nat) (fa : M Rv) (f : M (Nat × List Nat)) : M Bool := bnd fa fun x => bnd f fun r => fun ρ => match der ρ x, (treeAt ρ r).bind Tr.toD with
  | some a, some b => (match g a b with
    | some z => some (.ok z ρ)
    | none => none)
  | _, _ => none
end
end VL

end

section
set_option Elab.async false
set_option linter.all false
set_option maxRecDepth 100000
set_option maxHeartbeats 1000000
namespace VL
open PySem PySem.Spec PyProof.Rows L2
section
variable {X : Cx} {T T1 T2 T3 T4 : List Nat} {W : WV} {K : Fg} {fp1 : M (Nat × List Nat)} {fn : M Tr} {fa fk : M Rv} {o e i a b : Expr} {pos pos' p : Pos}
noncomputable def nCutMv (Ts T2 : List Nat) (f : M (Nat × List Nat)) (fl fh : M (Option Int)) : M Tr := bnd f fun r => bnd fl fun lo => bnd fh fun hi => fun ρ => if !T2.contains r.1 && (Ts.contains r.1 && modeOk ρ r.1) then (match treeAt ρ r with
  | some (.lst ts) => some (.ok (.lst (cutL ts lo hi)) (putAt ρ r .hole))
  | _ => none) else none
variable {fl fh : M (Option Int)} {lo hi : Option Expr} {p2 : Pos}
noncomputable def nCallP (G : Fn) (f : M (Nat × List Nat)) : M Tr := bnd f fun r => fun ρ => match treeAt ρ r with
  | some t => (match G [.own .lock t] with
    | some (.ret (.dat d), _) => some (.ok (.dat d) ρ)
    | _ => none)
  | none => none
end
end VL

end

section
set_option Elab.async false
set_option linter.all false
set_option maxRecDepth 100000
set_option maxHeartbeats 1000000
namespace VL
open PySem PySem.Spec PyProof.Rows L2
section
variable {X : Cx} {T T1 T2 T3 T4 : List Nat} {W : WV} {K : Fg} {fp1 : M (Nat × List Nat)} {fn : M Tr} {fa fk : M Rv} {o e a b : Expr} {pos pos' p tpos : Pos}
noncomputable def fzP (ρ : Rho) (r : Nat × List Nat) : Option Rho := if modeA ρ r then (match treeAt ρ r with
  | some (.dk kts) => (match dats kts with
    | some ds => some (putAt ρ r (.sd ds))
    | none => none)
  | _ => none) else none
noncomputable def sFzP (f : M (Nat × List Nat)) (g : MS) : MS := fun ρ => match f ρ with
  | some (.ok r _) => (match fzP ρ r with
    | some ρ1 => g ρ1
    | none => none)
  | _ => none
noncomputable def nDictS (f : M (Nat × List Nat)) : M Tr := bnd f fun r => fun ρ => match treeAt ρ r with
  | some (.sd ds) => some (.ok (.dk (toT ds)) ρ)
  | _ => none
noncomputable def lkS (ρ : Rho) (i : Nat) : Option Rho := if modeOk ρ i then (match ρ[i]? with
  | some (.own _ t) => some (ρ.set i (.own .lock t))
  | _ => none) else none
noncomputable def cLk (i : Nat) (f : M Rv) : M Rv := fun ρ => match lkS ρ i with
  | some ρ1 => (match f ρ1 with
    | some (.ok (.d d) ρ2) => (match ρ[i]? with
      | some s => some (.ok (.d d) (ρ2.set i s))
      | none => none)
    | _ => none)
  | none => none
end
end VL

end

section
set_option Elab.async false
set_option linter.all false
set_option maxRecDepth 100000
set_option maxHeartbeats 1000000
namespace VL
open PySem PySem.Spec PyProof.Rows L2
section
variable {X : Cx} {T T1 T2 T3 T4 : List Nat} {W : WV} {K : Fg} {fp1 : M (Nat × List Nat)} {o e a b : Expr} {pos pos' : Pos}
end
end VL

end

section
set_option Elab.async false
set_option linter.all false
set_option maxRecDepth 100000
set_option maxHeartbeats 1000000
namespace VL
open PySem PySem.Spec PyProof.Rows L2
section
variable {K : Fg} {F H : Hp} {σ : Sg} {ρ : Rho} {fp : FP} {jn jo k : Nat} {r : Nat × List Nat} {ρ1 : Rho} {m : Md} {t : Tr}
structure EnIn (K : Fg) (F H : Hp) (σ : Sg) (ρ : Rho) (fp : FP) (jn jo k : Nat) (r : Nat × List Nat) (ρ1 : Rho) (m : Md) (t : Tr) (u v : V) (pre B post : List Addr) (tk : Tr) : Prop where
  hi : ρ[r.1]? = some (.own m t)
  hm : modeOk ρ r.1 = true
  ns : r.1 ≠ jn ∧ r.1 ≠ jo ∧ jn ≠ jo ∧ jn < ρ.length ∧ jo < ρ.length
  nn : (∀ m t, ρ[jn]? ≠ some (.own m t)) ∧ ∀ m t, ρ[jo]? ≠ some (.own m t)
  hu : sg σ r.1 = some u
  hat : t.at (r.2 ++ [k]) = some tk
  hv : pathV H u (r.2 ++ [k]) = some v
  hfp : fp r.1 = pre ++ (B ++ post)
  r1 : ρ1 = ((ρ.set r.1 (.own .lock (t.put (r.2 ++ [k]) .hole))).set jn (.val (.int (k : Nat)))).set jo (.own .pin tk)
  env : EnvOk K F H ((σ.set jn (some (.int (k : Nat)))).set jo (some v)) ρ1 (fset (fset fp r.1 (pre ++ post)) jo B)
  back : ∀ F' H' t'' B', Same F F' → (∀ b, b ∈ pre ∨ b ∈ post → H' b = H b ∧ F' b = none) → TrOk K F' H' v t'' B' → TrOk K F' H' u (t.put (r.2 ++ [k]) t'') (pre ++ (B' ++ post)) ∧ pathV H' u (r.2 ++ [k]) = some v
  hole : TrOk K F H u (t.put (r.2 ++ [k]) .hole) (pre ++ post)
end
section
variable {X : Cx} {T : List Nat} {W : WV} {fp1 : M (Nat × List Nat)} {pos pos' p : Pos}
end
end VL

end

section
set_option Elab.async false
set_option linter.all false
set_option maxRecDepth 100000
set_option maxHeartbeats 1000000
namespace VL
open PySem PySem.Spec PyProof.Rows L2
section
variable {X : Cx} {T : List Nat} {W : WV} {fs : M (List Rv)} {pos : Pos}
noncomputable def sPar (i j : Nat) (fs : M (List Rv)) : MS := sE fs fun rs => fun ρ => match rs with
  | [.d a, .d b] => (match setSl ρ i (.val a) with
    | some ρ1 => (setSl ρ1 j (.val b)).map .nx
    | none => none)
  | _ => none
end
end VL

end

section
set_option Elab.async false
set_option linter.all false
set_option maxRecDepth 100000
namespace SM
open PySem PySem.Spec PyProof.Rows L2 VL
noncomputable def fuel : Nat := 1000000
noncomputable def s_left : Str := ⟨#[108, 101, 102, 116]⟩
noncomputable def s_done : Str := ⟨#[100, 111, 110, 101]⟩
noncomputable def s_void : Str := ⟨#[118, 111, 105, 100]⟩
noncomputable def s_Hall : Str := ⟨#[72, 97, 108, 108]⟩
noncomputable def s_past : Str := ⟨#[112, 97, 115, 116]⟩
noncomputable def s_dealt : Str := ⟨#[100, 101, 97, 108, 116]⟩
noncomputable def s_put_up : Str := ⟨#[112, 117, 116, 95, 117, 112]⟩
noncomputable def s_made : Str := ⟨#[109, 97, 100, 101]⟩
noncomputable def s_held : Str := ⟨#[104, 101, 108, 100]⟩
noncomputable def s_offered : Str := ⟨#[111, 102, 102, 101, 114, 101, 100]⟩
noncomputable def s_opened : Str := ⟨#[111, 112, 101, 110, 101, 100]⟩
noncomputable def s_moment : Str := ⟨#[109, 111, 109, 101, 110, 116]⟩
noncomputable def s_start : Str := ⟨#[115, 116, 97, 114, 116]⟩
noncomputable def s_size : Str := ⟨#[115, 105, 122, 101]⟩
noncomputable def s_two : Str := ⟨#[116, 119, 111]⟩
noncomputable def s_cards : Str := ⟨#[99, 97, 114, 100, 115]⟩
noncomputable def s_word : Str := ⟨#[119, 111, 114, 100]⟩
noncomputable def s_end : Str := ⟨#[101, 110, 100]⟩
noncomputable def s_need_bargain : Str := ⟨#[110, 101, 101, 100, 95, 98, 97, 114, 103, 97, 105, 110]⟩
noncomputable def s_need_member : Str := ⟨#[110, 101, 101, 100, 95, 109, 101, 109, 98, 101, 114]⟩
noncomputable def s_signs : Str := ⟨#[115, 105, 103, 110, 115]⟩
noncomputable def s_pass : Str := ⟨#[112, 97, 115, 115]⟩
noncomputable def s_settle : Str := ⟨#[115, 101, 116, 116, 108, 101]⟩
noncomputable def s_consent : Str := ⟨#[99, 111, 110, 115, 101, 110, 116]⟩
noncomputable def s_lower : Str := ⟨#[108, 111, 119, 101, 114]⟩
noncomputable def s_take : Str := ⟨#[116, 97, 107, 101]⟩
noncomputable def s_hold : Str := ⟨#[104, 111, 108, 100]⟩
noncomputable def s_close : Str := ⟨#[99, 108, 111, 115, 101]⟩
noncomputable def s_consents : Str := ⟨#[99, 111, 110, 115, 101, 110, 116, 115]⟩
noncomputable def s_called : Str := ⟨#[99, 97, 108, 108, 101, 100]⟩
noncomputable def s_back : Str := ⟨#[98, 97, 99, 107]⟩
noncomputable def tb_OTHERS : List (Str × PyData) := [(sIn, (.str sOut)), (sOut, (.str sIn)), (sChin, (.str sBrow)), (sBrow, (.str sChin))]
noncomputable def g_is_whole : MS := (sRet (nDat (cAndV (cIsi .int (cVar 0)) (cNotV (cIsi .bool (cVar 0))))))
noncomputable def F_is_whole : Fn := runF 1 g_is_whole
noncomputable def g_is_within : MS := (sRet (nDat (cAndV (cFrz (nCall [0] 1 F_is_whole (aCons (cVar 0) aNil))) (cOf (cChain leD leD (cVar 1) (cVar 0) (cVar 2))))))
noncomputable def F_is_within : Fn := runF 3 g_is_within
noncomputable def g_is_showing : MS := (sSeq (sIf (cOr (cNot (cTest (cIsi .tuple (cVar 0)))) (cOr (cCmp neD (cCall lenD (aCons (cVar 0) aNil)) (cD (.int 2))) (cNot (cTest (cFrz (nCall [] 3 F_is_within (aCons (cBin subD (cVar 0) (cD (.int 0))) (aCons (cD (.int 1)) (aCons (cD (.int 9)) aNil))))))))) (sRet (nDat (cD (.bool false)))) sNil)
  (sRet (nDat (cAndV (cIsi .str (cBin subD (cVar 0) (cD (.int 1)))) (cOf (cCmp inD (cBin subD (cVar 0) (cD (.int 1))) (cD (.tuple [(.str sChin), (.str sBrow)]))))))))
noncomputable def F_is_showing : Fn := runF 1 g_is_showing
noncomputable def g_is_sign : MS := (sSeq (sIf (cOr (cNot (cTest (cIsi .tuple (cVar 0)))) (cOr (cCmp neD (cCall lenD (aCons (cVar 0) aNil)) (cD (.int 4))) (cNot (cTest (cFrz (nCall [] 1 F_is_showing (aCons (cCut (cVar 0) (oSome (cD (.int 2))) oNone) aNil))))))) (sRet (nDat (cD (.bool false)))) sNil)
  (sRet (nDat (cAndV (cIsi .str (cBin subD (cVar 0) (cD (.int 0)))) (cAndV (cOf (cCmp inD (cBin subD (cVar 0) (cD (.int 0))) (cD (.tuple [(.str sIn), (.str sOut)])))) (cFrz (nCall [] 3 F_is_within (aCons (cBin subD (cVar 0) (cD (.int 1))) (aCons (cD (.int 0)) (aCons (cD (.int 9)) aNil))))))))))
noncomputable def F_is_sign : Fn := runF 1 g_is_sign
noncomputable def g_lots_of : MS := (sSeq (sAsg (gT 2 (gsC (gN 1) (gsC (gN 2) gsN))) (cCut (cVar 0) (oSome (cNeg (cD (.int 2)))) oNone))
  (sSeq (sIf (cCmp eqD (cVar 2) (cD (.str sBrow))) (sRet (nDat (cBin mulD (cD (.int 10)) (cVar 1)))) sNil)
  (sRetV 1)))
noncomputable def F_lots_of : Fn := runF 3 g_lots_of
noncomputable def g_other_part : MS := (sSeq (sIf (cTest (cIsi .str (cVar 0))) (sRet (nDat (cTab tb_OTHERS (cVar 0)))) sNil)
  (sSeq (sIf (cCmp eqD (cBin modD (cVar 0) (cD (.int 5))) (cD (.int 0))) (sRet (nDat (cD .none))) sNil)
  (sRet (nDat (cBin modD (cBin addD (cVar 0) (cD (.int 5))) (cD (.int 10)))))))
noncomputable def F_other_part : Fn := runF 1 g_other_part
noncomputable def b__law_likes_0 : MS := (sIf (cCmp inD (cBin subD (cVar 0) (cVar 3)) (cTup (aCons (cVar 4) (aCons (cVar 5) aNil)))) (sApp [] (pVar 2) (nDat (cBin addD (cBin addD (cCut (cVar 0) oNone (oSome (cVar 3))) (cTup (aCons (cBin subD (cFrz (nLst (aCons (cVar 4) (aCons (cVar 5) aNil)))) (cCall intD (aCons (cOf (cCmp eqD (cBin subD (cVar 0) (cVar 3)) (cVar 4))) aNil))) aNil))) (cCut (cVar 0) (oSome (cBin addD (cVar 3) (cD (.int 1)))) oNone)))) sNil)
noncomputable def b__law_likes_1 : MS := (sFor (iSeq (cVar 1)) (gT 2 (gsC (gN 4) (gsC (gN 5) gsN))) b__law_likes_0)
noncomputable def g__law_likes : MS := (sSeq (sSet 1 (cFrz (nLst (aCons (cTup (aCons (cD (.str sIn)) (aCons (cD (.str sOut)) aNil))) (aCons (cTup (aCons (cD (.str sChin)) (aCons (cD (.str sBrow)) aNil))) (aCons (cTup (aCons (cD (.int 1)) (aCons (cD (.int 6)) aNil))) (aCons (cTup (aCons (cD (.int 2)) (aCons (cD (.int 7)) aNil))) (aCons (cTup (aCons (cD (.int 3)) (aCons (cD (.int 8)) aNil))) (aCons (cTup (aCons (cD (.int 4)) (aCons (cD (.int 9)) aNil))) aNil)))))))))
  (sSeq (sSetN 2 (nLst aNil))
  (sSeq (sFor (iRange1 (aCons (cCall lenD (aCons (cVar 0) aNil)) aNil)) (gN 3) b__law_likes_1)
  (sRetV 2))))
noncomputable def F__law_likes : Fn := runF 6 g__law_likes
noncomputable def b_alikes_0 : MS := (sSeq (sSet 4 (cFrz (nCall [3] 1 F_other_part (aCons (cVar 3) aNil))))
  (sIf (cCmp notND (cVar 4) (cD .none)) (sApp [] (pVar 1) (nDat (cBin addD (cBin addD (cCut (cVar 0) oNone (oSome (cVar 2))) (cTup (aCons (cVar 4) aNil))) (cCut (cVar 0) (oSome (cBin addD (cVar 2) (cD (.int 1)))) oNone)))) sNil))
noncomputable def g_alikes : MS := (sSeq (sSetN 1 (nLst aNil))
  (sSeq (sFor (iEnumD (aCons (cVar 0) aNil)) (gT 2 (gsC (gN 2) (gsC (gN 3) gsN))) b_alikes_0)
  (sRetV 1)))
noncomputable def F_alikes : Fn := runF 5 g_alikes
noncomputable def g_look_alike : MS := (sRet (nDat (cOf (cCmp inD (cVar 1) (cFrz (nCall [0] 1 F_alikes (aCons (cVar 0) aNil)))))))
noncomputable def F_look_alike : Fn := runF 2 g_look_alike
noncomputable def g_is_odd : MS := (sSeq (sAsg (gT 4 (gsC (gN 1) (gsC (gN 2) (gsC (gN 3) (gsC (gN 4) gsN))))) (cVar 0))
  (sSeq (sSet 5 (cBin addD (cBin addD (cBin addD (cCall intD (aCons (cOf (cCmp eqD (cVar 1) (cD (.str sOut)))) aNil)) (cCall intD (aCons (cOf (cCmp gtD (cVar 2) (cD (.int 5)))) aNil))) (cCall intD (aCons (cOf (cCmp gtD (cVar 3) (cD (.int 5)))) aNil))) (cCall intD (aCons (cOf (cCmp eqD (cVar 4) (cD (.str sBrow)))) aNil))))
  (sRet (nDat (cOf (cCmp eqD (cBin modD (cVar 5) (cD (.int 2))) (cD (.int 1))))))))
noncomputable def F_is_odd : Fn := runF 6 g_is_odd
noncomputable def g_Hall_kept : MS := (sSeq (sSet 1 (cTup (aCons (cLeaf (pFld s_Hall s_moment (pVar 0))) (aCons (cLeaf (pFld s_Hall s_opened (pVar 0))) (aCons (cLeaf (pFld s_Hall s_offered (pVar 0))) aNil)))))
  (sSeq (sSetN 2 (nCopyDs 3 (pFld s_Hall s_made (pVar 0))))
  (sRet (nTupT (tConsM (nDat (cVar 1)) (tConsM (nDictC (pFld s_Hall s_held (pVar 0))) (tConsM (nMv 2) (tConsM (nListC (pFld s_Hall s_put_up (pVar 0))) (tConsM (nListC (pFld s_Hall s_dealt (pVar 0))) tNilM)))))))))
noncomputable def F_Hall_kept : Fn := runF 4 g_Hall_kept
noncomputable def g_Hall_need_member : MS := (sIf (cOr (cCmp ltD (cVar 1) (cD (.int 0))) (cCmp geD (cVar 1) (cLeaf (pFld s_Hall s_size (pVar 0))))) (sRaise s_NoMember) sNil)
noncomputable def F_Hall_need_member : Fn := runF 2 g_Hall_need_member
noncomputable def g_Hall_need_bargain : MS := (sIf (cOr (cCmp ltD (cVar 1) (cD (.int 0))) (cCmp geD (cVar 1) (cLenP (pFld s_Hall s_made (pVar 0))))) (sRaise s_NoBargain) sNil)
noncomputable def F_Hall_need_bargain : Fn := runF 2 g_Hall_need_bargain
noncomputable def g_Hall_need_theirs : MS := (sSeq (sDrop (cFrz (nMeth s_Hall s_need_member [0, 1] 2 F_Hall_need_member 0 (aCons (cVar 1) aNil))))
  (sSeq (sDrop (cFrz (nMeth s_Hall s_need_bargain [0, 2] 2 F_Hall_need_bargain 0 (aCons (cVar 2) aNil))))
  (sIf (cCmp notInD (cVar 1) (cDGet [] (pIx [] (pFld s_Hall s_made (pVar 0)) (cVar 2)) (cD (.str s_two)))) (sRaise s_NotTheirs) sNil)))
noncomputable def F_Hall_need_theirs : Fn := runF 3 g_Hall_need_theirs
end SM

end

section
set_option Elab.async false
set_option linter.all false
set_option maxRecDepth 100000
set_option maxHeartbeats 1000000
namespace VL
open PySem PySem.Spec PyProof.Rows L2
noncomputable def rEmpD : R2 := fun x y H Q => ∃ a b ks, x = .ref a ∧ y = .ref b ∧ H a = some (.dK ks) ∧ H b = some (.dK []) ∧ Q (.bl ks.isEmpty) H
section
variable {X : Cx} {T T1 T2 : List Nat} {W : WV} {K : Fg} {pos p : Pos} {a b e : Expr} {fp1 : M (Nat × List Nat)} {fn : M Tr}
theorem op_eqD (hu : X.A.units < cLine) : OpR X (compareOp .Eq) rEmpD := by
  intro pins s σ H x y v u Q I rx ry h
  obtain ⟨a, b, ks, rfl, rfl, ea, eb, q⟩ := h
  obtain rfl : v = Value.ref a := rx
  obtain rfl : u = Value.ref b := ry
  obtain ⟨_, ya, va, ra, da⟩ := (show ObjOk X.prog X.w H s.heap a (.dK ks) from I.hok a _ ea)
  obtain ⟨_, yb, vb, rb, db⟩ := (show ObjOk X.prog X.w H s.heap b (.dK []) from I.hok b _ eb)
  have lb : vb.length = 0 := by rw [← rb.length]; rfl
  have la : ks.length = va.length := ra.length
  cases va with
  | nil =>
    have ek : ks = [] := List.eq_nil_of_length_eq_zero (by simpa using la)
    subst ek
    exact PySem.W.keq_eq (knd := mixKind X.prog X.w) (r := true) ya yb da db hu (fun _ => .nil) (fin_bl I q (by simp [lb]))
  | cons c cs =>
    have ek : ks.isEmpty = false := by
      cases ks with
      | nil => simp at la
      | cons _ _ => rfl
    rw [ek] at q
    exact PySem.W.keq_eq (knd := mixKind X.prog X.w) (r := true) ya yb da db hu (fun z => by rw [lb] at z; simp at z) (fin_bl I q (by simp [lb]))
end
end VL

end

section
set_option Elab.async false
set_option linter.all false
set_option maxRecDepth 100000
set_option maxHeartbeats 1000000
namespace VL
open PySem PySem.Spec PyProof.Rows L2
section
variable {X : Cx} {T T1 T2 : List Nat} {W : WV} {K : Fg} {pos : Pos} {fp1 : M (Nat × List Nat)}
end
end VL

end

section
set_option Elab.async false
set_option linter.all false
set_option maxRecDepth 100000
namespace SN
open PySem PySem.Spec PyProof.Rows L2 VL SM SN
end SN

end

section
set_option Elab.async false
set_option linter.all false
set_option maxRecDepth 100000
set_option maxHeartbeats 1000000
namespace VL
open PySem PySem.Spec PyProof.Rows L2
section
variable {K : Fg} {F H : Hp} {σ : Sg} {ρ : Rho} {fp : FP} {i j : Nat} {r : Nat × List Nat} {ρ1 : Rho} {m : Md} {t : Tr}
structure W2In (K : Fg) (F H : Hp) (σ : Sg) (ρ : Rho) (fp : FP) (i j : Nat) (r : Nat × List Nat) (ρ1 : Rho) (m : Md) (t : Tr) (u : V) (a : Addr) (va vb : V) (pre Ba Bb post : List Addr) (ta tb : Tr) : Prop where
  hi : ρ[r.1]? = some (.own m t)
  hm : modeOk ρ r.1 = true
  ns : r.1 ≠ i ∧ r.1 ≠ j ∧ i ≠ j ∧ i < ρ.length ∧ j < ρ.length
  nn : (∀ m t, ρ[i]? ≠ some (.own m t)) ∧ ∀ m t, ρ[j]? ≠ some (.own m t)
  hu : sg σ r.1 = some u
  hat : t.at r.2 = some (.tup [ta, tb])
  hv : pathV H u r.2 = some (.ref a)
  ha : H a = some (.tup [va, vb])
  hfp : fp r.1 = pre ++ ((a :: (Ba ++ Bb)) ++ post)
  r1 : ρ1 = ((ρ.set r.1 (.own .lock (t.put r.2 (.tup [.hole, .hole])))).set i (.own .pin ta)).set j (.own .pin tb)
  env : EnvOk K F H ((σ.set i (some va)).set j (some vb)) ρ1 (fset (fset (fset fp r.1 (pre ++ (a :: post))) i Ba) j Bb)
  back : ∀ F' H' ta' tb' Ba' Bb', Same F F' → (∀ b, b ∈ pre ++ (a :: post) → H' b = H b ∧ F' b = none) → TrOk K F' H' va ta' Ba' → TrOk K F' H' vb tb' Bb' → TrOk K F' H' u (t.put r.2 (.tup [ta', tb'])) (pre ++ ((a :: (Ba' ++ Bb')) ++ post)) ∧ pathV H' u r.2 = some (.ref a)
  hole : TrOk K F H u (t.put r.2 (.tup [.hole, .hole])) (pre ++ (a :: post))
end
section
variable {X : Cx} {T : List Nat} {W : WV} {fp1 : M (Nat × List Nat)} {pos : Pos}
end
end VL

end

section
set_option Elab.async false
set_option linter.all false
set_option maxRecDepth 100000
set_option maxHeartbeats 1000000
namespace VL
open PySem PySem.Spec PyProof.Rows L2
inductive PAr where
  | v (x : Rv)
  | p (r : Nat × List Nat)
noncomputable def PArOk (K : Fg) (F H : Hp) (σ : Sg) (ρ : Rho) (v : V) : PAr → Prop
  | .v x => RvOk K F σ ρ v x
  | .p r => ∃ u m t t', sg σ r.1 = some u ∧ ρ[r.1]? = some (Sl.own m t) ∧ t.at r.2 = some t' ∧ pathV H u r.2 = some v
inductive PArsOk (K : Fg) (F H : Hp) (σ : Sg) (ρ : Rho) : List V → List PAr → Prop
  | nil : PArsOk K F H σ ρ [] []
  | cons {v vs r rs} : PArOk K F H σ ρ v r → PArsOk K F H σ ρ vs rs → PArsOk K F H σ ρ (v :: vs) (r :: rs)
section
variable {X : Cx} {T T1 T2 T3 : List Nat} {W : WV} {K : Fg} {pos p : Pos} {e : Expr} {es : List Expr} {fp1 : M (Nat × List Nat)} {fa : M Rv} {fs : M (List PAr)}
end
section
variable {K : Fg} {F H F' H' : Hp} {σ σ' : Sg} {ρ ρ3 : Rho} {fp fp3 : FP}
theorem ext_get {j : Nat} {s : Sl} (h : (ρ ++ [Sl.no, Sl.no])[j]? = some s) : ρ[j]? = some s ∨ (ρ.length ≤ j ∧ s = .no) := by
  by_cases hj : j < ρ.length
  · rw [List.getElem?_append_left hj] at h
    exact .inl h
  · rw [List.getElem?_append_right (by omega)] at h
    refine .inr ⟨by omega, ?_⟩
    match hk : j - ρ.length with
    | 0 => rw [hk] at h; simpa using h.symm
    | 1 => rw [hk] at h; simpa using h.symm
    | n + 2 => rw [hk] at h; simp at h
theorem ext_lt {j : Nat} (h : j < ρ.length) : (ρ ++ [Sl.no, Sl.no])[j]? = ρ[j]? := List.getElem?_append_left h
theorem ext_own {j : Nat} {m : Md} {t : Tr} (h : ρ[j]? = some (.own m t)) : (ρ ++ [Sl.no, Sl.no])[j]? = some (.own m t) := by
  rw [ext_lt (List.getElem?_eq_some_iff.mp h).1]; exact h
theorem ext_sg {j : Nat} (h : j < σ.length) : sg (σ ++ [none, none]) j = sg σ j := by
  unfold sg
  rw [List.getElem?_append_left h]
theorem ext_env (E : EnvOk K F H σ ρ fp) : EnvOk K F H (σ ++ [none, none]) (ρ ++ [.no, .no]) fp := by
  have hl := E.len
  refine ⟨E.sub, by simp [hl], fun j s h => ?_, fun j h => ?_, E.nd, E.ap, E.tb, fun j i p t h1 h2 => ?_⟩
  · rcases ext_get h with z | ⟨_, z⟩
    · have := (List.getElem?_eq_some_iff.mp z).1
      rw [ext_sg (by omega)]
      exact E.sl j s z
    · subst z; trivial
  · exact E.nil j fun m t z => h m t (ext_own z)
  · rcases ext_get h1 with z1 | ⟨_, z1⟩
    · rcases ext_get h2 with z2 | ⟨_, z2⟩
      · have a1 := (List.getElem?_eq_some_iff.mp z1).1
        have a2 := (List.getElem?_eq_some_iff.mp z2).1
        obtain ⟨t', u, v, c1, c2, c3, c4⟩ := E.al j i p t z1 z2
        exact ⟨t', u, v, c1, (ext_sg (by omega)).trans c2, (ext_sg (by omega)).trans c3, c4⟩
      · cases z2
    · cases z1
theorem take_get {n j : Nat} {s : Sl} (h : (ρ3.take n)[j]? = some s) : j < n ∧ ρ3[j]? = some s := by
  rw [List.getElem?_take] at h
  split at h
  · rename_i hj; exact ⟨hj, h⟩
  · cases h
theorem take_lt {n j : Nat} (h : j < n) : (ρ3.take n)[j]? = ρ3[j]? := by rw [List.getElem?_take, if_pos h]
end
noncomputable def PAr.rv (n : Nat) : PAr → Rv
  | .v x => x
  | .p _ => .o n
section
variable {K : Fg} {F H : Hp} {σ : Sg} {ρ ρa : Rho} {fp : FP} {i k : Nat} {q : List Nat} {m : Md} {t : Tr} {u v : V} {pre B post : List Addr} {tk : Tr}
end
section
variable {X : Cx} {T : List Nat} {W : WV} {k m : Nat} {f : Addr} {fd : FuncData} {ps : List Str} {F : Fn} {x : Str} {p pos : Pos} {e : Expr} {es : List Expr} {fs : M (List PAr)} {Ts : List Nat}
theorem callN_sp {F1 H1 : Hp} {σ : Sg} {ρ1 : Rho} {fp1 : FP} {rs : List Rv} {vs : List V} {o : Er Tr} {Q : VK} {E0 : XK} (s1 : EnvOk X.K F1 H1 σ ρ1 fp1) (r1 : RvsOk X.K F1 σ ρ1 vs rs) (e1 : callN Ts m F rs ρ1 = some o) (P1 : Pst (T ++ Ts) W (rlN X.K) F1 H1 σ ρ1 fp1 Q o) :
    spV X.K Wx0 m F vs H1 Q E0 := by
  unfold callN at e1
  split at e1
  · rename_i args hargs
    split at e1
    · rename_i ho
      rw [Bool.and_eq_true, Bool.and_eq_true] at ho
      split at e1
      · rename_i t outs hf
        split at e1
        · rename_i hbk
          cases ok_inj e1
          refine ⟨?_, F1, args, fpArgs rs fp1, _, outs, args_env s1 r1 hargs ho.2.1, hf, fun v A H' F' fp' st n => ?_⟩
          · rw [rvs_len r1]; exact of_decide_eq_true ho.1
          · have s2 := call_step (Ts := Ts) s1 r1 hargs ho.2.1 ho.2.2 st fun k m t h => backOk_get hbk h
            exact P1 v H' F' _ (s2.sub fun i hi => List.mem_append_right _ hi) ⟨A, call_new s1 ho.2.1 n⟩
        · cases e1
      · cases e1
    · cases e1
  · cases e1
end
end VL

end

section
set_option Elab.async false
set_option linter.all false
set_option maxRecDepth 100000
set_option maxHeartbeats 1000000
namespace VL
open PySem PySem.Spec PyProof.Rows L2
noncomputable def rlX (K : Fg) : Rl K (List Rv × Tr) (List V) := ⟨fun H fp F' H' fp' σ ρ' vs a => ∃ us v A, vs = us ++ [v] ∧ RvsOk K F' σ ρ' us a.1 ∧ NewOk K H fp F' H' fp' v a.2 A, fun e ⟨us, v, A, h1, h2, h3⟩ => ⟨us, v, A, h1, h2, h3.back e.st⟩⟩
noncomputable def VAx (X : Cx) (T : List Nat) (W : WV) (es : List Expr) (f : M (List Rv × Tr)) : Prop := PA X es (fun σ H Q => TVg T W (rlX X.K) f σ H Q)
noncomputable def xLast (f : M Tr) : M (List Rv × Tr) := bnd f fun t => ret ([], t)
noncomputable def xCons (f : M Rv) (g : M (List Rv × Tr)) : M (List Rv × Tr) := bnd f fun x => bnd g fun p => ret (x :: p.1, p.2)
section
variable {X : Cx} {T T1 T2 : List Nat} {W : WV} {K : Fg} {e : Expr} {es : List Expr} {fn : M Tr} {fa : M Rv} {fs : M (List Rv × Tr)}
theorem vax_last (h : VN X T W e fn) (hs : starEach [e] X.env = (false, eval e X.env) :: starEach [] X.env := by rfl) : VAx X T W [e] (xLast fn) :=
  pa_imp (pa_cons h pa_nil hs) fun σ H Q ⟨F, ρ, fp, o, E, e, P⟩ => by
    unfold xLast bnd at e
    cases h1 : fn ρ with
    | none => rw [h1] at e; cases e
    | some r =>
      rw [h1] at e
      cases r with
      | ex c ρ1 => cases e; exact ⟨F, ρ, fp, _, E, h1, fun H1 F1 fp1 st => P H1 F1 fp1 st⟩
      | ok t ρ1 =>
        cases ok_inj e
        exact ⟨F, ρ, fp, _, E, h1, fun v H1 F1 fp1 s1 ⟨A, n1⟩ => P [v] H1 F1 fp1 s1 ⟨[], v, A, rfl, .nil, n1⟩⟩
theorem vax_cons (ha : VE X T1 W e fa) (hb : VAx X T2 W es fs) (hs : starEach (e :: es) X.env = (false, eval e X.env) :: starEach es X.env := by rfl) : VAx X (T1 ++ T2) W (e :: es) (xCons fa fs) :=
  pa_imp (pa_cons ha hb hs) fun σ H Q ⟨F, ρ, fp, o, E, e, P⟩ => by
    unfold xCons bnd at e
    cases h1 : fa ρ with
    | none => rw [h1] at e; cases e
    | some r =>
      rw [h1] at e
      cases r with
      | ex c ρ1 =>
        cases e
        exact ⟨F, ρ, fp, _, E, h1, fun H1 F1 fp1 st => P H1 F1 fp1 (st.sub fun i hi => List.mem_append_left _ hi)⟩
      | ok x ρ1 =>
        refine ⟨F, ρ, fp, _, E, h1, fun w H1 F1 fp1 s1 r1 => ?_⟩
        simp only at e
        cases h2 : fs ρ1 with
        | none => rw [h2] at e; cases e
        | some r2 =>
          rw [h2] at e
          cases r2 with
          | ex c ρ2 =>
            cases e
            exact ⟨F1, ρ1, fp1, _, s1.env, h2, fun H2 F2 fp2 s2 => P H2 F2 fp2 ((s1.sub fun i hi => List.mem_append_left _ hi).trans (s2.sub fun i hi => List.mem_append_right _ hi))⟩
          | ok p ρ2 =>
            cases ok_inj e
            refine ⟨F1, ρ1, fp1, _, s1.env, h2, fun vs H2 F2 fp2 s2 ⟨us, v, A, hv, r2, n2⟩ => ?_⟩
            subst hv
            exact P _ H2 F2 fp2 ((s1.sub fun i hi => List.mem_append_left _ hi).trans (s2.sub fun i hi => List.mem_append_right _ hi)) ⟨w :: us, v, A, rfl, .cons (RvOk.step s2 r1) r2, n2.back s1.st⟩
end
noncomputable def callX (Ts : List Nat) (m : Nat) (f : Fn) (a : List Rv × Tr) : M Tr := fun ρ => if Ts.all (fun j => decide (j < ρ.length)) then (match callN (ρ.length :: Ts) m f (a.1 ++ [.o ρ.length]) (ρ ++ [.own .free a.2, .no]) with
  | some (.ok t ρ2) => some (.ok t (ρ2.take ρ.length))
  | _ => none) else none
noncomputable def nCallX (Ts : List Nat) (m : Nat) (f : Fn) (fs : M (List Rv × Tr)) : M Tr := bnd fs (callX Ts m f)
section
variable {K : Fg} {F H F1 H1 F' H' : Hp} {σ : Sg} {ρ ρ1 ρ2 : Rho} {fp fp1 fp' : FP} {T Ts : List Nat} {v : V} {t : Tr} {A : List Addr}
theorem x_rho : (ρ1 ++ [Sl.no, Sl.no]).set ρ1.length (.own .free t) = ρ1 ++ [.own .free t, .no] := by simp
theorem x_args (hl : σ.length = ρ1.length) : ∀ {us : List V} {rs : List Rv}, RvsOk K F1 σ ρ1 us rs → RvsOk K F1 ((σ ++ [none, none]).set ρ1.length (some v)) (ρ1 ++ [.own .free t, .no]) (us ++ [v]) (rs ++ [.o ρ1.length])
  | _, [], .nil => .cons ⟨sg_set (by simp [hl]), .free, t, by simp⟩ .nil
  | _, r :: rs, .cons h q => by
    refine .cons ?_ (x_args hl q)
    cases r with
    | d d => exact h
    | o l =>
      obtain ⟨h1, m', t', h2⟩ := h
      have hl' := (List.getElem?_eq_some_iff.mp h2).1
      exact ⟨by rw [sg_set_ne (by omega), ext_sg (by omega)]; exact h1, m', t', by rw [List.getElem?_append_left hl']; exact h2⟩
theorem x_owns {b : Addr} (h : Owns (fset fp1 ρ1.length A) b) : b ∈ A ∨ Owns fp1 b := h.fset
theorem x_step (E0 : EnvOk K F H σ ρ fp) (s1 : EStep K T F H σ ρ fp F1 H1 ρ1 fp1) (n1 : NewOk K H fp F1 H1 fp1 v t A) (hTs : ∀ j ∈ Ts, j < ρ1.length)
    (s : EStep K ([] ++ (ρ1.length :: Ts)) F1 H1 ((σ ++ [none, none]).set ρ1.length (some v)) (ρ1 ++ [.own .free t, .no]) (fset fp1 ρ1.length A) F' H' ρ2 fp') :
    EStep K (T ++ Ts) F H σ ρ fp F' H' (ρ2.take ρ1.length) (fset fp' ρ1.length []) := by
  have E1 := s1.env
  have hσ := E1.len
  have hl2 : ρ2.length = ρ1.length + 2 := by
    have a := s.env.len
    simp at a
    omega
  have hl0 : ρ.length = ρ1.length := by rw [← E0.len, hσ]
  have g3 : ∀ j, j < ρ1.length → (ρ1 ++ [Sl.own .free t, .no])[j]? = ρ1[j]? := fun j hj => List.getElem?_append_left hj
  have sg3 : ∀ j, j < ρ1.length → sg ((σ ++ [none, none]).set ρ1.length (some v)) j = sg σ j := fun j hj => by
    rw [sg_set_ne (by omega), ext_sg (by omega)]
  have f3 : ∀ j, j ≠ ρ1.length → fset fp1 ρ1.length A j = fp1 j := fun j hj => by unfold fset; rw [if_neg hj]
  have f4 : ∀ j, j ≠ ρ1.length → fset fp' ρ1.length [] j = fp' j := fun j hj => by unfold fset; rw [if_neg hj]
  have f5 : fset fp' ρ1.length [] ρ1.length = [] := by unfold fset; rw [if_pos rfl]
  have ow4 : ∀ b, Owns (fset fp' ρ1.length []) b → Owns fp' b := fun b h => by
    rcases h.fset with z | z
    · cases z
    · exact z
  have back : ∀ b, (H1 b = none ∨ Owns (fset fp1 ρ1.length A) b) → H b = none ∨ Owns fp b := fun b h => by
    rcases h with h | h
    · exact .inl (s1.st.dom b h)
    · rcases x_owns h with z | z
      · exact n1.new b z
      · exact (s1.st.own b z).symm
  have nown : ∀ (b : Addr) o, H b = some o → ¬ Owns fp b → ¬ Owns (fset fp1 ρ1.length A) b := fun b o h hn z => by
    rcases back b (.inr z) with w | w
    · rw [h] at w; cases w
    · exact hn w
  have hno : ρ2[ρ1.length + 1]? = some .no := by
    have := (s.un (ρ1.length + 1) fun z => by
      rcases List.mem_cons.mp z with z | z
      · omega
      · have := hTs _ z; omega).1
    rw [this]
    simp
  have env : EnvOk K F' H' σ (ρ2.take ρ1.length) (fset fp' ρ1.length []) := by
    refine ⟨s.env.sub, by rw [List.length_take, hl2]; omega, fun j sl h => ?_, fun j h => ?_, fun j => ?_, fun i j b h1 h2 => ?_, s.env.tb, fun j i p t' h1 h2 => ?_⟩
    · obtain ⟨a1, a2⟩ := take_get h
      have := s.env.sl j sl a2
      rw [sg3 j a1] at this
      rw [f4 j (by omega)]
      exact this
    · by_cases hj : j = ρ1.length
      · subst hj; exact f5
      · rw [f4 j hj]
        by_cases hj2 : j < ρ1.length
        · exact s.env.nil j fun m t' z => h m t' ((take_lt hj2).trans z)
        · refine s.env.nil j fun m t' z => ?_
          have hj3 := (List.getElem?_eq_some_iff.mp z).1
          have : j = ρ1.length + 1 := by omega
          subst this
          rw [hno] at z; cases z
    · by_cases hj : j = ρ1.length
      · subst hj; rw [f5]; exact List.nodup_nil
      · rw [f4 j hj]; exact s.env.nd j
    · by_cases hi : i = ρ1.length
      · subst hi; rw [f5] at h1; cases h1
      · by_cases hj : j = ρ1.length
        · subst hj; rw [f5] at h2; cases h2
        · rw [f4 i hi] at h1; rw [f4 j hj] at h2
          exact s.env.ap i j b h1 h2
    · obtain ⟨a1, a2⟩ := take_get h1
      obtain ⟨b1, b2⟩ := take_get h2
      have := s.env.al j i p t' a2 b2
      rw [sg3 j a1, sg3 i b1] at this
      exact this
  refine ⟨⟨env, s1.st.fr.trans s.st.fr, fun b h h' => ?_, fun b h => s1.st.dom b (s.st.dom b h), fun b o h hn nt => s.st.frame b o (s1.st.frame b o h hn nt) (nown b o h hn) nt, fun b h => ?_, fun i m t' h hm => ?_, fun i t' h => ?_⟩, fun i m t' h => ?_, fun i hi => ?_⟩
  · by_cases h1 : F1 b = none
    · rcases s.st.nf b h1 h' with z | z | z
      · exact (back b (.inl z)).imp_right .inl
      · exact (back b (.inr z)).imp_right .inl
      · exact s1.st.kt z
    · exact s1.st.nf b h h1
  · rcases s.st.own b (ow4 b h) with z | z
    · exact (back b (.inr z)).symm
    · exact .inr (s1.st.dom b z)
  · have hi := (List.getElem?_eq_some_iff.mp h).1
    obtain ⟨_, m1, t1, h1, k1⟩ := s1.st.pin i m t' h hm
    obtain ⟨_, m2, t2, h2, k2⟩ := s.st.pin i m1 t1 (by rw [g3 i (by omega)]; exact h1) k1
    exact ⟨rfl, m2, t2, (take_lt (by omega)).trans h2, k2⟩
  · have hi := (List.getElem?_eq_some_iff.mp h).1
    obtain ⟨_, h1, e1, d1⟩ := s1.st.lock i t' h
    obtain ⟨_, h2, e2, d2⟩ := s.st.lock i t' (by rw [g3 i (by omega)]; exact h1)
    rw [f3 i (by omega)] at e2 d2
    exact ⟨rfl, (take_lt (by omega)).trans h2, (f4 i (by omega)).trans (e2.trans e1), fun b hb => (d2 b (by rw [e1]; exact hb)).trans (d1 b hb)⟩
  · have hi := (List.getElem?_eq_some_iff.mp h).1
    obtain ⟨t1, h1⟩ := s1.ko i m t' h
    obtain ⟨t2, h2⟩ := s.ko i m t1 (by rw [g3 i (by omega)]; exact h1)
    exact ⟨t2, (take_lt (by omega)).trans h2⟩
  · obtain ⟨a1, a2, a3⟩ := s1.un i fun z => hi (List.mem_append_left _ z)
    by_cases hl : i < ρ1.length
    · obtain ⟨b1, b2, b3⟩ := s.un i fun z => by
        rcases List.mem_cons.mp z with z | z
        · omega
        · exact hi (List.mem_append_right _ z)
      rw [f3 i (by omega)] at b2 b3
      exact ⟨(take_lt hl).trans (b1.trans ((g3 i hl).trans a1)), (f4 i (by omega)).trans (b2.trans a2), fun b hb => (b3 b (by rw [a2]; exact hb)).trans (a3 b hb)⟩
    · have z1 : ρ[i]? = none := List.getElem?_eq_none (by omega)
      have z2 : (ρ2.take ρ1.length)[i]? = none := List.getElem?_eq_none (by rw [List.length_take]; omega)
      have e1 : fp i = [] := E0.nil i fun m t' z => by rw [z1] at z; cases z
      have e2 : fset fp' ρ1.length [] i = [] := env.nil i fun m t' z => by rw [z2] at z; cases z
      exact ⟨z2.trans z1.symm, e2.trans e1.symm, fun b hb => by rw [e1] at hb; cases hb⟩
end
section
variable {X : Cx} {T : List Nat} {W : WV} {k m : Nat} {f : Addr} {fd : FuncData} {ps : List Str} {F : Fn} {x : Str} {p pos : Pos} {e : Expr} {es : List Expr} {fs : M (List Rv × Tr)} {Ts : List Nat}
theorem vn_callX (G : FnOk X.prog X.w X.K X.mg X.base CX0 k f fd ps (spV X.K Wx0 m F)) (hr : Room k X.A) (hg : Gl X x) (hm : X.mg x = some (.ref f)) (hk : PySem.W.keepIn X.K (.ref f) = true) (hb : Binds X.K fd ps [])
    (ha : VAx X T W (e :: es) fs) (hdb : (x == ("__debug__" : Str)) = false := by decide) (he : starEach (e :: es) X.env = (false, eval e X.env) :: starEach es X.env := by rfl) (hpl : (backTo pos (starEach es X.env)).any (·.1) = false := by rfl) :
    VN X (T ++ Ts) W (.Call (.Name x p) (e :: es) [] pos) (nCallX Ts m F fs) :=
  pe_imp (pe_call G hr hg hm hk hb .nil pass0 ha hdb he hpl) fun σ H Q ⟨F0, ρ, fp, o, E, q, P⟩ => by
    unfold nCallX bnd at q
    cases hf : fs ρ with
    | none => rw [hf] at q; cases q
    | some r =>
      rw [hf] at q
      cases r with
      | ex c ρ1 => cases q; exact ⟨F0, ρ, fp, _, E, hf, fun H1 F1 fp1 st => P H1 F1 fp1 (st.sub fun i hi => List.mem_append_left _ hi)⟩
      | ok a ρ1 =>
        refine ⟨F0, ρ, fp, _, E, hf, fun vs H1 F1 fp1 s1 ⟨us, v, A, hv, r1, n1⟩ => ?_⟩
        subst hv
        rw [List.append_nil]
        simp only at q
        unfold callX at q
        split at q
        · rename_i hT
          have hTs : ∀ j ∈ Ts, j < ρ1.length := fun j hj => of_decide_eq_true (List.all_eq_true.mp hT j hj)
          split at q
          · rename_i t ρ2 hc
            cases ok_inj q
            have E1 := s1.env
            have hσ := E1.len
            have E3 := set_env (ext_env E1) (i := ρ1.length) (v := v) (s := .own .free a.2) (A := A) (by simp) ⟨v, rfl, n1.ok⟩ n1.nd n1.out (fun z => nomatch z)
            rw [x_rho] at E3
            refine callN_sp (T := []) (W := W) E3 (x_args hσ r1) hc fun y H' F' fp' s ⟨A', n'⟩ => ?_
            refine P y H' F' _ (x_step E s1 n1 hTs s) ⟨A', n'.ok, n'.nd, fun b hb => ?_, fun b hb z => n'.out b hb ?_⟩
            · rcases n'.new b hb with z | z
              · exact .inl (s1.st.dom b z)
              · rcases x_owns z with w | w
                · exact n1.new b w
                · exact (s1.st.own b w).symm
            · rcases z.fset with w | w
              · cases w
              · exact w
          · cases q
        · cases q
end
end VL
namespace VL
open PySem PySem.Spec PyProof.Rows L2
theorem vss_noneM {X : Cx} {W : WV} {st : List Stmt} : VSs X W st (fun _ => none) := ⟨fun pins s σ H D I ⟨F, ρ, fp, o, E, e, P⟩ => by cases e⟩
end VL

end

section
set_option Elab.async false
set_option linter.all false
set_option maxRecDepth 100000
namespace SXA
open PySem PySem.Spec PyProof.Rows L2 VL SM SN
noncomputable def b_reached_from_0 : MS := (sIf (cDIn true (cVar 7) (pVar 4)) (sSeq (sDPut [] (cD (.bool true)) (pVar 4) (cVar 7))
  (sIf (cDIn true (cDGet [] (pVar 2) (cVar 7)) (pVar 3)) (sApp [] (pVar 5) (nDat (cDGet [] (pVar 2) (cVar 7)))) sNil)) sNil)
noncomputable def b_reached_from_1 : MS := (sSeq (sSet 6 (cFrz (nPopT [5] (pVar 5))))
  (sSeq (sDPut [] (cD (.bool true)) (pVar 3) (cVar 6))
  (sFor (iSeq (cDGet [] (pVar 1) (cVar 6))) (gN 7) b_reached_from_0)))
noncomputable def g_reached_from : MS := (sSeq (sSetN 3 (nNew (.dt [])))
  (sSeq (sSetN 4 (nNew (.dt [])))
  (sSeq (sSetN 5 (nListC (pVar 0)))
  (sSeq (sWhile SM.fuel (cCmp neD (cVar 5) (cFrz (nLst aNil))) b_reached_from_1)
  (sRet (nTupT (tConsM (nMv 3) (tConsM (nMv 4) tNilM))))))))
noncomputable def F_reached_from : Fn := runF 8 g_reached_from
noncomputable def b_find_mate_0 (F : Fn) : MS := (sIf (cDIn true (cVar 4) (pVar 3)) (sSeq (sDPut [] (cD (.bool true)) (pVar 3) (cVar 4))
  (sIf (cOr (cDIn true (cVar 4) (pVar 2)) (cTest (cFrz (nCall [1, 2, 3] 4 F (aCons (cDGet [] (pVar 2) (cVar 4)) (aCons (cVar 1) (aCons (cVar 2) (aCons (cVar 3) aNil)))))))) (sSeq (sDPut [] (cVar 0) (pVar 2) (cVar 4))
  (sRet (nDat (cD (.bool true))))) sNil)) sNil)
noncomputable def g_find_mate (F : Fn) : MS := (sSeq (sFor (iSeq (cDGet [] (pVar 1) (cVar 0))) (gN 4) (b_find_mate_0 F))
  (sRet (nDat (cD (.bool false)))))
noncomputable def F_find_mate : Nat → Fn
  | 0 => runF 5 (fun _ => none)
  | k + 1 => runF 5 (g_find_mate (F_find_mate k))
noncomputable def b_most_apart_0 : MS := (sIf (cNot (cTest (cFrz (nCallX [2, 4, 6] 4 (F_find_mate 190) (xCons (cVar 2) (xCons (cVar 4) (xCons (cVar 6) (xLast (nNew (.dt [])))))))))) (sApp [] (pVar 7) (nDat (cVar 2))) sNil)
noncomputable def b_most_apart_1 : MS := (sDPut [] (cFrz (nComp (iSeq (cVar 1)) [5] (gN 5) (cTest (cFrz (nCall [2, 5] 2 SM.F_look_alike (aCons (cVar 2) (aCons (cVar 5) aNil))))) (cVar 5))) (pVar 4) (cVar 2))
noncomputable def g_most_apart : MS := (sSeq (sSet 1 (cFrz (nComp (iSeq (cVar 0)) [2] (gN 2) (cTest (cFrz (nCall [2] 1 SM.F_is_odd (aCons (cVar 2) aNil)))) (cVar 2))))
  (sSeq (sSet 3 (cFrz (nComp (iSeq (cVar 0)) [2] (gN 2) (cNot (cTest (cFrz (nCall [2] 1 SM.F_is_odd (aCons (cVar 2) aNil))))) (cVar 2))))
  (sSeq (sSetN 4 (nNew (.dt [])))
  (sSeq (sFor (iSeq (cVar 3)) (gN 2) b_most_apart_1)
  (sSeq (sSetN 6 (nNew (.dt [])))
  (sSeq (sSetN 7 (nLst aNil))
  (sSeq (sFor (iSeq (cVar 3)) (gN 2) b_most_apart_0)
  (sSeq (sUnp 8 9 (nCall [7, 4, 6] 3 F_reached_from (aCons (cVar 7) (aCons (cVar 4) (aCons (cVar 6) aNil)))))
  (sSeq (sSetN 10 (nComp (iSeq (cVar 0)) [2] (gN 2) (cOr (cDIn false (cVar 2) (pVar 8)) (cAnd (cTest (cFrz (nCall [2] 1 SM.F_is_odd (aCons (cVar 2) aNil)))) (cDIn true (cVar 2) (pVar 9)))) (cVar 2)))
  (sRet (nTupT (tConsM (nMv 10) (tConsM (nComp (iSeq (cVar 1)) [5] (gN 5) (cDIn false (cVar 5) (pVar 6)) (cTup (aCons (cDGet [] (pVar 6) (cVar 5)) (aCons (cVar 5) aNil)))) tNilM)))))))))))))
noncomputable def F_most_apart : Fn := runF 11 g_most_apart
end SXA

end

section
set_option Elab.async false
set_option linter.all false
set_option maxRecDepth 100000
namespace VLB
open PySem PySem.Spec PyProof.Rows L2
structure Good (m : Nat) : Prop where
  meets : ∀ (h : Int) {j : Nat}, j ≤ m → ∃ n, n ≤ m + 12 ∧ runI m (SetTable.bits h) n = j
  odd : m % 2 = 1
  le : m ≤ 511
noncomputable def orb (m : Nat) : Nat → Nat → List Nat
  | 0, _ => []
  | n + 1, x => x :: orb m n ((x * 5 + 1) % (m + 1))
theorem orb_mem {m j : Nat} : ∀ (n x : Nat), j ∈ orb m n x → ∃ k, k < n ∧ lcgI m x k = j
  | 0, _, h => nomatch h
  | n + 1, x, h => by
    rcases List.mem_cons.mp h with e | h
    · exact ⟨0, Nat.succ_pos _, e.symm⟩
    · obtain ⟨k, hk, e⟩ := orb_mem n _ h
      refine ⟨k + 1, by omega, ?_⟩
      have sh : ∀ k, lcgI m x (k + 1) = lcgI m ((x * 5 + 1) % (m + 1)) k := fun k => by
        induction k with
        | zero => rfl
        | succ k ih =>
          show (lcgI m x (k + 1) * 5 + 1) % (m + 1) = (lcgI m ((x * 5 + 1) % (m + 1)) k * 5 + 1) % (m + 1)
          rw [ih]
      rw [sh]
      exact e
theorem orb511 : ((List.range 512).all fun j => (orb 511 512 0).contains j) = true := by decide +kernel
theorem round511 : lcgI 511 0 512 = 0 := by decide +kernel
theorem lcgI_add (m x : Nat) : ∀ a k, lcgI m (lcgI m x a) k = lcgI m x (a + k)
  | a, 0 => rfl
  | a, k + 1 => congrArg (fun z => (z * 5 + 1) % (m + 1)) (lcgI_add m x a k)
theorem lcgI_turn : ∀ k, lcgI 511 0 (512 + k) = lcgI 511 0 k := fun k => by rw [← lcgI_add, round511]
theorem all511 {i j : Nat} (hi : i ≤ 511) (hj : j ≤ 511) : ∃ k, k ≤ 511 ∧ lcgI 511 i k = j := by
  have f : ∀ j, j ≤ 511 → ∃ b, b ≤ 511 ∧ lcgI 511 0 b = j := fun j hj => by
    have h := List.all_eq_true.mp orb511 j (List.mem_range.mpr (Nat.lt_succ_of_le hj))
    obtain ⟨k, hk, e⟩ := orb_mem 512 0 (List.contains_iff_mem.mp h)
    exact ⟨k, by omega, e⟩
  obtain ⟨a, ha, rfl⟩ := f i hi
  obtain ⟨b, hb, rfl⟩ := f j hj
  by_cases c : a ≤ b
  · exact ⟨b - a, by omega, by rw [lcgI_add]; congr 1; omega⟩
  · exact ⟨512 + b - a, by omega, by rw [lcgI_add, show a + (512 + b - a) = 512 + b by omega, lcgI_turn]⟩
theorem good_of {m : Nat} (h : MaskOk m) : Good m := ⟨fun h0 _ hj => run_meets h h0 hj, mask_odd h, by rcases h with e | e | e <;> omega⟩
theorem good511 : Good 511 := ⟨fun h j hj => by
  obtain ⟨k, hk, e⟩ := all511 (runI_le 511 (SetTable.bits h) 12) hj
  exact ⟨12 + k, by omega, by rw [runI_tail (bits_lt h)]; exact e⟩, rfl, Nat.le_refl _⟩
theorem way_bd {m : Nat} {h : Int} {k : Nat} : way m h k ≤ m := by
  have b : SetTable.bits h % (m + 1) ≤ m := Nat.le_of_lt_succ (Nat.mod_lt _ (Nat.succ_pos _))
  have e := runEnd_bd b
  have q := nth_in (m := m) k (runAt m (SetTable.bits h % (m + 1)) (SetTable.bits h)) (by unfold runAt; dsimp only; omega)
  exact Nat.le_trans (Nat.le_add_right _ _) q
structure TabB (t : SetTable) (hs : List Int) : Prop where
  up : Ris t.place.toList
  dm : t.dummies = #[]
  len : hs.length = t.place.size
  g : Good t.mask
  leads : ∀ {i j : Nat} {h : Int}, t.place.toList[i]? = some j → hs[i]? = some h → ∃ k, way t.mask h k = j ∧ ∀ q < k, way t.mask h q ∈ t.place.toList
theorem TabB.first {t : SetTable} {hs : List Int} (T : TabB t hs) (room : hs.length ≤ t.mask) (h : Int) :
    ∃ K, K < 10 * SetTable.turns t.mask ∧ ¬ way t.mask h K ∈ t.place.toList ∧ ∀ q < K, way t.mask h q ∈ t.place.toList := by
  obtain ⟨j, hj, free⟩ := st_missing t.place.toList (t.mask + 1) (by rw [Array.length_toList, ← T.len]; omega)
  obtain ⟨n, hn, e⟩ := T.g.meets h (Nat.le_of_lt_succ hj)
  obtain ⟨k, hk, e2⟩ := run_nth t.mask (SetTable.bits h) n
  have at_k : way t.mask h k = j := (congrArg SetTable.Probe.j e2).trans e
  obtain ⟨K, h1, h2, h3⟩ := st_least (p := fun q => ¬ way t.mask h q ∈ t.place.toList) k (by show ¬ way t.mask h k ∈ _; rw [at_k]; exact free)
  exact ⟨K, by unfold SetTable.turns; omega, h2, fun q hq => Classical.byContradiction (h3 q hq)⟩
theorem TabB.put {t : SetTable} {hs : List Int} (T : TabB t hs) {h : Int} {K p : Nat} (free : ¬ way t.mask h K ∈ t.place.toList) (hb : ∀ q < K, way t.mask h q ∈ t.place.toList) (hp : p = SetTable.below t.place (way t.mask h K)) :
    TabB (t.put (way t.mask h K)).1 (hs.take p ++ h :: hs.drop p) := by
  have pl : p ≤ t.place.toList.length := by
    rw [hp, Array.length_toList]
    exact (below_cut T.up (way t.mask h K)).1
  have ph : p ≤ hs.length := by rw [T.len, ← Array.length_toList]; exact pl
  have pe : (t.put (way t.mask h K)).1.place.toList = t.place.toList.take p ++ way t.mask h K :: t.place.toList.drop p := by rw [put_place, hp]
  have mo : ∀ {x}, x ∈ t.place.toList → x ∈ (t.put (way t.mask h K)).1.place.toList := fun hx => by rw [pe]; exact mem_ins.2 (.inr hx)
  refine { up := ris_insert T.up fun e => free (List.mem_of_getElem? (by rw [Array.getElem?_toList]; exact e)), dm := put_dm T.dm _, len := ?_, g := T.g, leads := fun {i j h'} a1 a2 => ?_ }
  · rw [len_ins _ ph, ← Array.length_toList, pe, len_ins _ pl, T.len, Array.length_toList]
  · rw [pe, tins_get _ pl] at a1
    rw [tins_get hs ph] at a2
    show ∃ k, way t.mask h' k = j ∧ ∀ q < k, way t.mask h' q ∈ (t.put (way t.mask h K)).1.place.toList
    split at a1
    · rename_i c
      rw [if_pos c] at a2
      obtain ⟨k, e, z⟩ := T.leads a1 a2
      exact ⟨k, e, fun q hq => mo (z q hq)⟩
    · rename_i c
      rw [if_neg c] at a2
      split at a1
      · rename_i d
        rw [if_pos d] at a2
        cases Option.some.inj a1
        cases Option.some.inj a2
        exact ⟨K, rfl, fun q hq => mo (hb q hq)⟩
      · rename_i d
        rw [if_neg d] at a2
        obtain ⟨k, e, z⟩ := T.leads a1 a2
        exact ⟨k, e, fun q hq => mo (z q hq)⟩
theorem TabB.fill {t : SetTable} {hs : List Int} (T : TabB t hs) (j : Nat) : (t.put j).1.fill = hs.length + 1 := by
  have pl : SetTable.below t.place j ≤ t.place.toList.length := by rw [Array.length_toList]; exact (below_cut T.up j).1
  show (t.put j).1.place.size + (t.put j).1.dummies.size = _
  rw [put_dm T.dm j, ← Array.length_toList, put_place, len_ins _ pl, Array.length_toList, ← T.len]
  rfl
theorem free_at {m : Nat} (g : Good m) (owner : Array (Option Nat)) (h : Int) {j : Nat} (hj : j ≤ m) (hf : oAt owner j = none) :
    ∃ K, SetTable.layClean.free m owner (SetTable.turns m) (SetTable.bits h % (m + 1)) (SetTable.bits h) = some (way m h K) ∧ oAt owner (way m h K) = none ∧ ∀ q < K, ¬ oAt owner (way m h q) = none := by
  obtain ⟨n, hn, e⟩ := g.meets h hj
  have hw : way m h (off m (SetTable.bits h % (m + 1)) (SetTable.bits h) n) = j := by
    have q := nth_off m n (SetTable.bits h % (m + 1)) (SetTable.bits h)
    rw [itL_run] at q
    exact (congrArg SetTable.Probe.j q).trans e
  obtain ⟨K, k1, k2, k3⟩ := st_least (p := fun q => oAt owner (way m h q) = none) _ (show oAt owner (way m h (off m (SetTable.bits h % (m + 1)) (SetTable.bits h) n)) = none by rw [hw]; exact hf)
  refine ⟨K, free_spec m owner _ n _ _ K (by unfold SetTable.turns; omega) k1 (fun q hq => ?_) (by
    show (oAt owner (way m h K)).isNone = true
    rw [k2]
    rfl), k2, k3⟩
  have z := k3 q hq
  show (oAt owner (way m h q)).isNone = false
  cases y : oAt owner (way m h q) with
  | none => exact absurd y z
  | some _ => rfl
theorem own_step {m : Nat} (g : Good m) {done : List Int} {owner : Array (Option Nat)} (W : Own m done owner) (hl : done.length ≤ m) (h : Int) :
    ∃ j, SetTable.layClean.free m owner (SetTable.turns m) (SetTable.bits h % (m + 1)) (SetTable.bits h) = some j ∧ Own m (done ++ [h]) (owner.setIfInBounds j (some done.length)) := by
  obtain ⟨ps, hps, hin⟩ := W.ps
  obtain ⟨f0, lt0, new0⟩ := st_missing ps (m + 1) (by omega)
  have le0 := Nat.le_of_lt_succ lt0
  obtain ⟨K, e1, e2, e3⟩ := free_at g owner h le0 (Classical.byContradiction fun z => new0 (hin f0 le0 z))
  have inb : way m h K < owner.size := by rw [W.sz]; exact Nat.lt_succ_of_le way_bd
  have self := oAt_set_self (some done.length) inb
  have other : ∀ {i}, ¬ i = way m h K → oAt (owner.setIfInBounds (way m h K) (some done.length)) i = oAt owner i := fun c => oAt_set_ne _ c
  have taken : ∀ {i}, ¬ oAt owner i = none → ¬ oAt (owner.setIfInBounds (way m h K) (some done.length)) i = none := fun {i} hi => by
    by_cases c : i = way m h K
    · rw [c, self]; exact nofun
    · rw [other c]; exact hi
  refine ⟨_, e1, { sz := by rw [Array.size_setIfInBounds, W.sz], at_ := fun j k hj e => ?_, all := fun k hk => ?_, ps := ⟨way m h K :: ps, by simp [hps], fun j hj e => ?_⟩ }⟩
  · by_cases c : j = way m h K
    · rw [c, self] at e
      cases Option.some.inj e
      exact ⟨h, K, by simp, c.symm, fun q hq => taken (e3 q hq)⟩
    · rw [other c] at e
      obtain ⟨h', K', a1, a2, a3⟩ := W.at_ j k hj e
      exact ⟨h', K', by rw [List.getElem?_append_left (List.getElem?_eq_some_iff.mp a1).1, a1], a2, fun q hq => taken (a3 q hq)⟩
  · by_cases c : k < done.length
    · obtain ⟨j, hj, e⟩ := W.all k c
      exact ⟨j, hj, by rw [other fun z => by rw [z, e2] at e; cases e]; exact e⟩
    · rw [List.length_append, List.length_singleton] at hk
      exact ⟨way m h K, way_bd, by rw [show k = done.length by omega]; exact self⟩
  · by_cases c : j = way m h K
    · exact c ▸ List.mem_cons_self
    · rw [other c] at e
      exact List.mem_cons_of_mem _ (hin j hj e)
theorem own_fold {m : Nat} (g : Good m) : ∀ (rest done : List Int) (owner : Array (Option Nat)), Own m done owner → done.length + rest.length ≤ m →
    ∃ o2, rest.foldl (stepF m) (some (owner, done.length)) = some (o2, (done ++ rest).length) ∧ Own m (done ++ rest) o2
  | [], done, owner, W, _ => ⟨owner, by simp, by rw [List.append_nil]; exact W⟩
  | h :: rest, done, owner, W, hl => by
    rw [List.length_cons] at hl
    obtain ⟨j, e, W'⟩ := own_step g W (by omega) h
    obtain ⟨o2, f, W2⟩ := own_fold g rest (done ++ [h]) _ W' (by rw [List.length_append, List.length_singleton]; omega)
    rw [List.append_assoc, List.singleton_append] at f W2
    refine ⟨o2, ?_, W2⟩
    rw [List.foldl_cons, stepF_some e, ← f, List.length_append, List.length_singleton]
theorem lay_ok {m : Nat} (g : Good m) {hs : Array Int} (hn : hs.size ≤ m) : ∃ owner, SetTable.layClean m hs = some owner ∧ Own m hs.toList owner := by
  obtain ⟨owner, f, W⟩ := own_fold g hs.toList [] _ (Own.init m) (by simp; exact hn)
  refine ⟨owner, ?_, by rw [List.nil_append] at W; exact W⟩
  rw [layClean_eq]
  exact congrArg (Option.map _) f
theorem anew_ok (t : SetTable) {hs : Array Int} {wanted M : Nat} (hw : SetTable.sizeAbove wanted - 1 = M) (g : Good M) (hn : hs.size ≤ M) :
    ∃ t2 order, t.relaid hs wanted = some (t2, order) ∧ order.toList.Perm (List.range hs.size) ∧ TabB t2 (order.toList.map fun i => hs.getD i 0) ∧ t2.mask = M ∧ t2.led = t.led := by
  obtain ⟨owner, e, W⟩ := lay_ok g hn
  have ris := ris_live (fun j => owner.getD j none) (List.range (M + 1)) (by
    unfold Ris
    first | exact List.pairwise_lt_range | exact List.pairwise_lt_range _)
  have r1 : Ris ((liveOf M owner).map (·.1)) := ris.1
  have lives : ∀ {k}, k < hs.size → k ∈ (liveOf M owner).map (·.2) := fun {k} hk => by
    obtain ⟨j, b1, b2⟩ := W.all k (by rw [Array.length_toList]; exact hk)
    exact List.mem_map.mpr ⟨(j, k), (mem_live W.sz).2 ⟨b1, b2⟩, rfl⟩
  have l1 : (liveOf M owner).length ≤ hs.size := by
    obtain ⟨ps, p1, p2⟩ := W.ps
    have nd : ((liveOf M owner).map (·.1)).Nodup := List.Pairwise.imp (fun h => Nat.ne_of_lt h) r1
    have a := nat_nodup_len ((liveOf M owner).map (·.1)) ps nd fun x hx => by
      obtain ⟨⟨y, k⟩, hq, rfl⟩ := List.mem_map.mp hx
      obtain ⟨b1, b2⟩ := (mem_live W.sz).1 hq
      exact p2 y b1 (by rw [b2]; exact nofun)
    rw [List.length_map, p1] at a
    exact a
  have l2 : hs.size ≤ (liveOf M owner).length := by
    have b := nat_nodup_len (List.range hs.size) ((liveOf M owner).map (·.2)) List.nodup_range fun k hk => lives (List.mem_range.mp hk)
    rw [List.length_map, List.length_range] at b
    exact b
  refine ⟨tabOf t M owner, ((liveOf M owner).map (·.2)).toArray, by rw [relaid_eq, hw, e]; rfl, perm_range hs.size _ (by
    show ((liveOf M owner).map (·.2)).length = _
    rw [List.length_map]; omega) (fun k hk => lives hk), { up := r1, dm := rfl, len := ?_, g := g, leads := fun {i j h} a1 a2 => ?_ }, rfl, rfl⟩
  · show (((liveOf M owner).map (·.2)).map fun i => hs.getD i 0).length = ((liveOf M owner).map (·.1)).toArray.size
    simp
  · replace a1 : ((liveOf M owner).map (·.1))[i]? = some j := a1
    replace a2 : (((liveOf M owner).map (·.2)).map fun i => hs.getD i 0)[i]? = some h := a2
    rw [List.getElem?_map] at a1
    rw [List.getElem?_map, List.getElem?_map] at a2
    cases hq : (liveOf M owner)[i]? with
    | none => rw [hq] at a1; cases a1
    | some q =>
      rw [hq] at a1 a2
      obtain ⟨b1, b2⟩ := (mem_live W.sz).1 (List.mem_of_getElem? hq)
      obtain ⟨h0, K, c1, c2, c3⟩ := W.at_ q.1 q.2 b1 b2
      have e0 : hs.getD q.2 0 = h0 := by
        rw [Array.getD_eq_getD_getElem?, ← Array.getElem?_toList, c1]
        rfl
      cases e0.symm.trans (Option.some.inj a2)
      cases Option.some.inj a1
      refine ⟨K, c2, fun k' hk' => ?_⟩
      show way M _ k' ∈ (liveOf M owner).map (·.1)
      cases z : oAt owner (way M _ k') with
      | none => exact absurd z (c3 k' hk')
      | some k2 => exact List.mem_map.mpr ⟨(way M _ k', k2), (mem_live W.sz).2 ⟨way_bd, z⟩, rfl⟩
theorem size_308 : SetTable.sizeAbove (SetTable.grown 77) = 512 := by decide +kernel
end VLB

end

section
set_option Elab.async false
set_option linter.all false
set_option maxRecDepth 100000
namespace VLS
open PySem PySem.Spec PyProof.Rows L2
section
variable {P : Program} {w : World} {A : Around} {E : Value → Shared → Prop} {s : Shared}
end
end VLS
namespace VL
open PySem PySem.Spec PyProof.Rows L2
section
variable {P : Program} {w : World} {A : Around} {E : Value → Shared → Prop} {s : Shared}
end
section
variable {X : Cx} {T T1 T2 : List Nat} {W : WV} {K : Fg} {pos : Pos}
end
end VL

end

section
set_option Elab.async false
set_option linter.all false
set_option maxRecDepth 100000
namespace VLK
open PySem PySem.Spec PyProof.Rows L2
section
variable {P : Program} {w : World} {A : Around} {E : Value → Shared → Prop} {s : Shared}
noncomputable abbrev TupK (P : Program) (w : World) (h : Heap) (k : List L2.Key) (b : Addr) : Prop := IsTupleKey (mixKind P w) h k b
noncomputable abbrev hashK (P : Program) (w : World) (k : List L2.Key) : Int := tupleKeyHash (mixKind P w) k
theorem items_flat {k : List L2.Key} {vs : List Value} (h : ItemsAre (mixKind P w) k vs) : ∀ v ∈ vs, (∃ i t, v = Value.int i t) ∨ ∃ x t, v = Value.str x t := by
  induction h with
  | nil => exact fun _ hv => nomatch hv
  | @cons k0 v' ks vs h1 _ ih =>
    intro v hv
    rcases List.mem_cons.mp hv with e | hv
    · subst e
      rcases keyIs_shape h1 with ⟨i, t, _, e⟩ | ⟨x, t, _, e⟩
      · exact .inl ⟨i, t, e⟩
      · exact .inr ⟨x, t, e⟩
    · exact ih v hv
theorem noClass_tup {k : List L2.Key} {b : Addr} {Q : Bool → Shared → Prop} (hk : TupK P w s.heap k b) (h : Q false s) : wpAny (model P w) A (ofAClassStatement 8 (.ref b)) Q E s := by
  have hT := hk.typeIs
  obtain ⟨o, items, n, ho, _, hd, hi⟩ := hk
  unfold ofAClassStatement
  refine wpAny_bind (wpAny_typeOf hT ?_)
  dsimp only
  simp only [show (("tuple" : String) == "tuple") = true by decide, if_true, Bool.not_true, Bool.false_eq_true, if_false]
  try refine wpAny_bind (wpAny_pure ?_)
  try simp only [Bool.not_true, Bool.false_eq_true, if_false]
  show wpAny _ _ (seqItems? (.ref b) >>= _) _ _ s
  refine wpAny_bind (wpAny_seqItems ho hd (wpAny_bind ?_))
  show wpAny _ _ (forIn items _ _) _ _ s
  rw [← Array.forIn_toList]
  refine wpAny_forIn_list _ (fun rest r s' => r.1 = none ∧ s' = s ∧ ∀ v ∈ rest, (∃ i t, v = Value.int i t) ∨ ∃ x t, v = Value.str x t) _ ?_ ?_ _ _ ⟨rfl, rfl, items_flat hi⟩
  · rintro v rest r s' ⟨_, rfl, hall⟩
    have e : ofAClassStatement 7 v = pure false := by
      rcases hall v List.mem_cons_self with ⟨i, t, rfl⟩ | ⟨x, t, rfl⟩ <;> rfl
    rw [e]
    refine wpAny_bind (wpAny_pure ?_)
    simp only [Bool.false_eq_true, if_false]
    exact wpAny_pure ⟨rfl, rfl, fun u hu => hall u (List.mem_cons_of_mem _ hu)⟩
  · rintro ⟨r1, r2⟩ s' ⟨hr, rfl, _⟩
    simp only at hr
    subst hr
    exact wpAny_pure h
theorem byValue_tup {k : List L2.Key} {b : Addr} {Q : Bool → Shared → Prop} (hk : TupK P w s.heap k b) (h : ∀ y, Q y s) : wpAny (model P w) A (hashByValue 8 (.ref b)) Q E s := by
  have hT := hk.typeIs
  obtain ⟨o, items, n, ho, _, hd, hi⟩ := hk
  unfold hashByValue
  refine wpAny_bind (wpAny_specialOf hT F.slot_tuple_hash.lookup ?_)
  show wpAny _ _ (seqItems? (.ref b) >>= _) _ _ s
  refine wpAny_bind (wpAny_seqItems ho hd (wpAny_bind ?_))
  show wpAny _ _ (forIn items _ _) _ _ s
  rw [← Array.forIn_toList]
  refine wpAny_forIn_list _ (fun rest r s' => (r.1 = none ∨ r.1 = some false) ∧ s' = s ∧ ∀ v ∈ rest, (∃ i t, v = Value.int i t) ∨ ∃ x t, v = Value.str x t) _ ?_ ?_ _ _ ⟨.inl rfl, rfl, items_flat hi⟩
  · rintro v rest r s' ⟨_, rfl, hall⟩
    have rest' : ∀ u ∈ rest, (∃ i t, u = Value.int i t) ∨ ∃ x t, u = Value.str x t := fun u hu => hall u (List.mem_cons_of_mem _ hu)
    rcases hall v List.mem_cons_self with ⟨i, t, rfl⟩ | ⟨x, t, rfl⟩
    · rw [show hashByValue 7 (.int i t) = pure true from rfl]
      refine wpAny_bind (wpAny_pure ?_)
      simp only [Bool.not_true, Bool.false_eq_true, if_false]
      exact wpAny_pure ⟨.inl rfl, rfl, rest'⟩
    · rw [show hashByValue 7 (.str x t) = pure false from rfl]
      refine wpAny_bind (wpAny_pure ?_)
      simp only [Bool.not_false, if_true]
      exact wpAny_pure (wpAny_pure (h false))
  · rintro ⟨r1, r2⟩ s' ⟨hr, rfl, _⟩
    simp only at hr
    rcases hr with rfl | rfl
    · exact wpAny_pure (h true)
    · exact wpAny_pure (h false)
theorem unseen {k : List L2.Key} {b : Addr} {Q : Bool → Shared → Prop} (hk : TupK P w s.heap k b) {ys : List Value} (hy : ∀ y ∈ ys, ∃ k' c, y = Value.ref c ∧ TupK P w s.heap k' c) (h : Q false s) : wpAny (model P w) A (searchCouldBeSeen (.ref b) ys) Q E s := by
  unfold searchCouldBeSeen
  refine wpAny_bind (wpAny_forIn_list _ (fun rest r s' => r.1 = none ∧ s' = s ∧ ∀ y ∈ rest, ∃ k' c, y = Value.ref c ∧ TupK P w s.heap k' c) _ ?_ ?_ _ _ ⟨rfl, rfl, hy⟩)
  · rintro v rest r s' ⟨_, rfl, hall⟩
    obtain ⟨k', c, rfl, hc⟩ := hall v List.mem_cons_self
    have rest' : ∀ y ∈ rest, ∃ k' c, y = Value.ref c ∧ TupK P w s'.heap k' c := fun u hu => hall u (List.mem_cons_of_mem _ hu)
    dsimp only
    by_cases hv : (b == c || (carriedByValue (.ref b) && carriedByValue (.ref c))) = true
    · exact wp_if_pos hv (wpAny_pure ⟨rfl, rfl, rest'⟩)
    · refine wp_if_neg hv (wpAny_bind (wpAny_eqIsQuiet_tuple hk ?_))
      simp only [Bool.not_true, Bool.false_eq_true, if_false]
      refine wpAny_bind (wpAny_eqIsQuiet_tuple hc ?_)
      simp only [Bool.not_true, Bool.false_eq_true, if_false]
      refine wpAny_bind (noClass_tup hk ?_)
      simp only [Bool.false_eq_true, if_false]
      refine wpAny_bind (noClass_tup hc ?_)
      simp only [Bool.false_eq_true, if_false]
      exact wpAny_pure ⟨rfl, rfl, rest'⟩
  · rintro ⟨r1, r2⟩ s' ⟨hr, rfl, _⟩
    simp only at hr
    subst hr
    exact wpAny_pure h
noncomputable abbrev Rw := Addr × List L2.Key
noncomputable def ent (P : Program) (w : World) (p : Rw) : Int × Value := (hashK P w p.2, Value.ref p.1)
structure SetK (P : Program) (w : World) (h : Heap) (a : Addr) (L : List Rw) (es : Array (Int × Value)) (ep : Nat) (t : SetTable) : Prop where
  ob : ∃ o, h.get? a = some o ∧ o.ExactSet ∧ o.data = .set es ep t
  rows : es.toList = L.map (ent P w)
  tab : TabOk t (L.map fun p => hashK P w p.2)
  tup : ∀ p ∈ L, TupK P w h p.2 p.1
  led : w.params.followText "set-order" = true ∨ t.led = true
  room : L.length * 5 < t.mask * 3
variable {a : Addr} {L : List Rw} {es : Array (Int × Value)} {ep : Nat} {t : SetTable}
theorem SetK.size (R : SetK P w s.heap a L es ep t) : es.size = L.length := by
  rw [← Array.length_toList, R.rows, List.length_map]
theorem SetK.places (R : SetK P w s.heap a L es ep t) : t.place.size = L.length := by
  rw [R.tab.sz, List.length_map]
theorem fits_of (hd : t.dummies = #[]) (h1 : t.place.size = es.size) (h2 : es.size ≤ t.mask) : t.fits es.size = true := by
  unfold SetTable.fits SetTable.fill
  rw [hd, Bool.and_eq_true, beq_iff_eq, decide_eq_true_eq]
  show t.place.size = es.size ∧ t.place.size + 0 ≤ t.mask
  omega
theorem SetK.fits (R : SetK P w s.heap a L es ep t) : t.fits es.size = true := fits_of R.tab.dm (by rw [R.places, R.size]) (by have := R.room; rw [R.size]; omega)
theorem SetK.at (R : SetK P w s.heap a L es ep t) {i : Nat} {p : Rw} (h : L[i]? = some p) : es[i]? = some (ent P w p) := by
  rw [← Array.getElem?_toList, R.rows, List.getElem?_map, h]
  rfl
theorem SetK.whole (R : SetK P w s.heap a L es ep t) : ¬ t.gaveWay = true := by
  unfold SetTable.gaveWay
  rw [mask_odd R.tab.mok]
  decide
theorem no_dummy {m : Nat} : ∀ (n : Nat) (p : SetTable.Probe), p.dummy = none → (nth m p n).dummy = none
  | 0, _, h => h
  | n + 1, p, h => no_dummy n (adv m p) (by unfold adv; split <;> exact h)
theorem find_new (R : SetK P w s.heap a L es ep t) {x : Addr} {k : List L2.Key} (hx : TupK P w s.heap k x) (hn : ∀ p ∈ L, p.2 ≠ k) (hu : A.units < cLine) {K : Nat} (hK0 : K < 10 * SetTable.turns t.mask)
    (hK : way t.mask (hashK P w k) K ∉ t.place.toList) (hb : ∀ c, c < K → way t.mask (hashK P w k) c ∈ t.place.toList) {Q : SetFound → Shared → Prop} (q : Q (.free (way t.mask (hashK P w k) K) false) s) :
    ∀ (f c : Nat) (stand : Option SetTable.Probe), stand.getD (t.probeStart (hashK P w k)) = nth t.mask (runAt t.mask (SetTable.bits (hashK P w k) % (t.mask + 1)) (SetTable.bits (hashK P w k))) c → c ≤ K → K - c < f →
      wpAny (model P w) A (setSearchFrom a (.ref x) (hashK P w k) true f stand) Q E s
  | 0, _, _, _, _, hf => absurd hf (Nat.not_lt_zero _)
  | f + 1, c, stand, hst, hc, hf => by
    obtain ⟨o, ho, hex, hd⟩ := R.ob
    rw [setSearchFrom_succ]
    refine wpAny_bind (wpAny_setState_of ho hd R.fits ?_)
    dsimp only
    refine wp_if_neg R.whole ?_
    try refine wpAny_bind (wpAny_pure ?_)
    have e1 : ∀ j, nth t.mask (nth t.mask (runAt t.mask (SetTable.bits (hashK P w k) % (t.mask + 1)) (SetTable.bits (hashK P w k))) c) j = nth t.mask (runAt t.mask (SetTable.bits (hashK P w k) % (t.mask + 1)) (SetTable.bits (hashK P w k))) (c + j) := fun j => (nth_add t.mask c _ j).symm
    have e2 : ∀ j, (nth t.mask (nth t.mask (runAt t.mask (SetTable.bits (hashK P w k) % (t.mask + 1)) (SetTable.bits (hashK P w k))) c) j).j = way t.mask (hashK P w k) (c + j) := fun j => congrArg SetTable.Probe.j (e1 j)
    have last : c + (K - c) = K := by omega
    have sp := go_spec t R.tab.ris R.tab.dm (fun i => (es[i]?.map (·.1)).getD 0) (hashK P w k) (10 * SetTable.turns t.mask) (K - c) _ (no_dummy c _ rfl) (by omega) (fun j hj => by rw [e2]; exact hb (c + j) (by omega)) (by rw [e2, last]; exact hK)
    rcases sp with ⟨j, i, hj, hi, _, _, pr⟩ | ⟨_, pr⟩
    · have pr' : t.probe (fun i => (es[i]?.map (·.1)).getD 0) (hashK P w k) (stand.getD (t.probeStart (hashK P w k))) = some (.candidate (way t.mask (hashK P w k) (c + j)) i (nth t.mask (runAt t.mask (SetTable.bits (hashK P w k) % (t.mask + 1)) (SetTable.bits (hashK P w k))) (c + (j + 1)))) := by
        rw [hst, ← e2, ← e1]
        exact pr
      rw [pr']
      dsimp only
      rw [e2] at hi
      have il : i < L.length := by
        have h1 := (List.getElem?_eq_some_iff.mp hi).1
        rw [Array.length_toList, R.places] at h1
        exact h1
      obtain ⟨p, hp⟩ : ∃ p, L[i]? = some p := ⟨_, List.getElem?_eq_getElem il⟩
      have pm := List.mem_of_getElem? hp
      have un : decide (p.2 = k) = false := decide_eq_false (hn p pm)
      have go : wpAny (model P w) A (searchRest a (.ref x) (hashK P w k) true f es t (way t.mask (hashK P w k) (c + j)) i (nth t.mask (runAt t.mask (SetTable.bits (hashK P w k) % (t.mask + 1)) (SetTable.bits (hashK P w k))) (c + (j + 1)))) Q E s := by
        unfold searchRest
        rw [R.at hp]
        dsimp only [ent]
        refine wpAny_bind (wpAny_holding (wpAny_eqBool_tuple hu (R.tup p pm) hx ?_))
        refine wpAny_bind (wpAny_setState_of ho hd R.fits ?_)
        dsimp only
        refine wp_if_neg (by simp [un]) ?_
        try refine wpAny_bind (wpAny_pure ?_)
        rw [sameMem]
        dsimp only
        simp only [if_true, slot_live R.tab.ris hi, R.at hp, ent]
        refine wpAny_bind (wpAny_isSame_ref_self (wpAny_bind (wpAny_pure ?_)))
        simp only [if_true]
        exact wp_if_neg (by simp [un]) (find_new R hx hn hu hK0 hK hb q f (c + (j + 1)) _ rfl (by omega) (by omega))
      by_cases hl : t.led = true
      · refine wp_if_neg (by simp [hl]) ?_
        try refine wpAny_bind (wpAny_pure ?_)
        exact go
      · refine wp_if_pos (by simp [hl]) (wpAny_bind (unseen hx (fun y hy => ?_) ?_))
        · obtain ⟨e, he, ee⟩ := List.mem_map.mp hy
          have he1 : e ∈ es ∧ e.1 = hashK P w k := by simpa using he
          have he2 : e ∈ es.toList := by simpa using he1.1
          rw [R.rows] at he2
          obtain ⟨p2, hp2, q2⟩ := List.mem_map.mp he2
          exact ⟨p2.2, p2.1, by rw [← ee, ← q2]; rfl, R.tup p2 hp2⟩
        · refine wp_if_neg (by decide) ?_
          try refine wpAny_bind (wpAny_pure ?_)
          exact go
    · have pr' : t.probe (fun i => (es[i]?.map (·.1)).getD 0) (hashK P w k) (stand.getD (t.probeStart (hashK P w k))) = some (.empty (way t.mask (hashK P w k) K) none) := by
        rw [hst, show way t.mask (hashK P w k) K = (nth t.mask (nth t.mask (runAt t.mask (SetTable.bits (hashK P w k) % (t.mask + 1)) (SetTable.bits (hashK P w k))) c) (K - c)).j by rw [e2, last]]
        exact pr
      rw [pr']
      dsimp only
      exact wpAny_pure q
theorem fm_map {α β : Type} {f : α → Option β} {g : α → β} : ∀ {l : List α}, (∀ i ∈ l, f i = some (g i)) → l.filterMap f = l.map g
  | [], _ => rfl
  | x :: l, h => by rw [List.filterMap_cons_some (h x List.mem_cons_self), fm_map fun i hi => h i (List.mem_cons_of_mem _ hi), List.map_cons]
theorem reorder {order : Array Nat} (hr : es.toList = L.map (ent P w)) (hp : order.toList.Perm (List.range L.length)) :
    ∃ L2 : List Rw, (order.filterMap (es[·]?)).toList = L2.map (ent P w) ∧ L2.Perm L ∧ (L2.map fun p => hashK P w p.2) = order.toList.map fun i => (es.map (·.1)).getD i 0 := by
  obtain ⟨g, hg⟩ : ∃ g : Nat → Rw, g = fun i => (L[i]?).getD (0, []) := ⟨_, rfl⟩
  have hi : ∀ i ∈ order.toList, i < L.length := fun i h => List.mem_range.mp (hp.mem_iff.mp h)
  have at0 : ∀ i, i < L.length → L[i]? = some (g i) := fun i h => by
    rw [hg]
    show L[i]? = some ((L[i]?).getD (0, []))
    rw [List.getElem?_eq_getElem h]
    rfl
  have at1 : ∀ i, i < L.length → es[i]? = some (ent P w (g i)) := fun i h => by
    rw [← Array.getElem?_toList, hr, List.getElem?_map, at0 i h]
    rfl
  refine ⟨order.toList.map g, ?_, ?_, ?_⟩
  · rw [Array.toList_filterMap, fm_map (g := fun i => ent P w (g i)) fun i h => at1 i (hi i h), List.map_map]
    rfl
  · have e : (List.range L.length).map g = L := by
      apply List.ext_getElem?
      intro i
      by_cases h : i < L.length
      · rw [List.getElem?_map, List.getElem?_range h, at0 i h]
        rfl
      · rw [List.getElem?_eq_none (by simp; omega), List.getElem?_eq_none (by omega)]
    have := hp.map g
    rwa [e] at this
  · rw [List.map_map]
    refine List.map_congr_left fun i h => ?_
    show hashK P w (g i).2 = (es.map (·.1)).getD i 0
    rw [Array.getD_eq_getD_getElem?, Array.getElem?_map, at1 i (hi i h)]
    rfl
theorem TupK.other {h h' : Heap} {k : List L2.Key} {b : Addr} {o : Obj} (hb : TupK P w h k b) (ho : h.get? a = some o) (hd : o.data = .set es ep t) (sb : Heap.SameBut a h h') : TupK P w h' k b := by
  obtain ⟨o', items, n, h1, hc, h2, hi⟩ := hb
  refine ⟨o', items, n, (sb.2 b fun z => ?_).trans h1, hc, h2, hi⟩
  subst z
  cases Option.some.inj (h1.symm.trans ho)
  rw [hd] at h2
  exact nomatch h2
theorem laid_anew {o : Obj} (ho : s.heap.get? a = some o) (hex : o.ExactSet) (hd : o.data = .set es ep t) (hr : es.toList = L.map (ent P w)) (hsz : t.place.size = es.size) (hdm : t.dummies = #[]) (hfl : es.size ≤ t.mask)
    (tup : ∀ p ∈ L, TupK P w s.heap p.2 p.1) (ld : w.params.followText "set-order" = true ∨ t.led = true) (few : L.length < 64) {wanted M : Nat} (hw : SetTable.sizeAbove wanted - 1 = M) (hM : MaskOk M) (hw2 : SetTable.sizeAbove wanted ≤ 128) (hn : L.length * 5 < M * 3)
    {Q : Unit → Shared → Prop} (q : ∀ h' L' es' ep' t', Heap.SameBut a s.heap h' → SetK P w h' a L' es' ep' t' → L'.Perm L → Q () { s with heap := h' }) : wpAny (model P w) A (setRelay a wanted) Q E s := by
  have hsl : es.size = L.length := by rw [← Array.length_toList, hr, List.length_map]
  obtain ⟨t', order, e, hp, T, em, el, _, _⟩ := relaid_ok t (hs := es.map (·.1)) (wanted := wanted) hw hM (by rw [Array.size_map, hsl]; omega)
  rw [Array.size_map, hsl] at hp
  obtain ⟨L2, r1, r2, r3⟩ := reorder hr hp
  rw [← r3] at T
  have hs2 : (order.filterMap (es[·]?)).size = es.size := by rw [← Array.length_toList, r1, List.length_map, r2.length_eq, hsl]
  rw [setRelay_eq]
  refine wpAny_bind (wpAny_setState_of ho hd (fits_of hdm hsz hfl) ?_)
  dsimp only
  refine wp_if_neg (by rw [sizeLine_eq]; omega) ?_
  try refine wpAny_bind (wpAny_pure ?_)
  rw [e]
  dsimp only
  refine wpAny_bind (wp_if_neg (by rw [hs2]; simp) ?_)
  try refine wpAny_bind (wpAny_pure ?_)
  refine wpAny_pure ?_
  dsimp only
  refine wpAny_storeSet_of ho hd ?_ (by rw [hs2, hsl, sizeLine_eq]; omega)
  have sb : Heap.SameBut a s.heap (s.heap.update a (Obj.putSet (order.filterMap (es[·]?)) t')) := Heap.SameBut.update ..
  exact q _ L2 (order.filterMap (es[·]?)) (ep + 1) t' sb ⟨⟨_, store_at ho hd, ⟨hex.1, hex.2.1, hex.2.2⟩, rfl⟩, r1, T, fun p hpm => (tup p (r2.mem_iff.mp hpm)).other ho hd sb, by rw [el]; exact ld, by rw [r2.length_eq, em]; exact hn⟩ r2
theorem add_new (R : SetK P w s.heap a L es ep t) {x : Addr} {k : List L2.Key} (hx : TupK P w s.heap k x) (hn : ∀ p ∈ L, p.2 ≠ k) (hu : A.units < cLine) (few : L.length + 1 < 64) {Q : Bool → Shared → Prop}
    (q : ∀ h' L' es' ep' t', Heap.SameBut a s.heap h' → SetK P w h' a L' es' ep' t' → L'.Perm ((x, k) :: L) → Q true { s with heap := h' }) : wpAny (model P w) A (setAddHashed a (.ref x) (hashK P w k)) Q E s := by
  obtain ⟨o, ho, hex, hd⟩ := R.ob
  have hsl := R.size
  have room := R.room
  unfold setAddHashed
  refine wpAny_holding ?_
  rw [show (100000 : Nat) = 99999 + 1 from rfl, setAddHashedIn_succ]
  refine wpAny_bind (wpAny_setState_of ho hd R.fits ?_)
  dsimp only
  refine wp_if_neg (by simp [byScan, Value.scannable]) ?_
  try refine wpAny_bind (wpAny_pure ?_)
  obtain ⟨K, hK0, hK, hb⟩ := R.tab.first (by rw [List.length_map]; omega) (hashK P w k)
  have big : K < 100000 := by
    have : 10 * SetTable.turns t.mask ≤ 1420 := by
      unfold SetTable.turns
      rcases R.tab.mok with e | e | e <;> omega
    omega
  unfold setSearch
  refine wpAny_bind (find_new R hx hn hu hK0 hK hb ?_ 100000 0 none rfl (Nat.zero_le _) (by omega))
  dsimp only
  refine wpAny_bind (wpAny_setState_of ho hd R.fits ?_)
  dsimp only
  obtain ⟨q1, _, q3, q4, q5, _, _, _, q9⟩ := R.tab.put hK hb
  generalize hpt : t.put (way t.mask (hashK P w k) K) = pt at q1 q3 q4 q5 q9 ⊢
  obtain ⟨t1, p⟩ := pt
  dsimp only at q1 q3 q4 q5 q9 ⊢
  subst q1
  generalize hpp : SetTable.below t.place (way t.mask (hashK P w k) K) = p at q3 ⊢
  have pm : (L.take p ++ (x, k) :: L.drop p).Perm ((x, k) :: L) := by
    have := List.perm_middle (a := ((x, k) : Rw)) (l₁ := L.take p) (l₂ := L.drop p)
    rwa [List.take_append_drop] at this
  have hin : (SetTable.insertAt es p (hashK P w k, Value.ref x)).toList = (L.take p ++ (x, k) :: L.drop p).map (ent P w) := by
    rw [SetTable.toList_insertAt, R.rows, List.map_append, List.map_cons, List.map_take, List.map_drop]
    rfl
  have hh : (L.take p ++ (x, k) :: L.drop p).map (fun p => hashK P w p.2) = (L.map fun p => hashK P w p.2).take p ++ hashK P w k :: (L.map fun p => hashK P w p.2).drop p := by
    rw [List.map_append, List.map_cons, List.map_take, List.map_drop]
  rw [← hh] at q3
  have hl := pm.length_eq
  rw [List.length_cons] at hl
  have hes : (SetTable.insertAt es p (hashK P w k, Value.ref x)).size = L.length + 1 := by rw [← Array.length_toList, hin, List.length_map, hl]
  -- whatever is known of the values' kinds
  have rest : ∀ t2 : SetTable, t2.place = t1.place → t2.dummies = t1.dummies → t2.mask = t1.mask → t2.led = t1.led → t2.tooFull = t1.tooFull → TabOk t2 ((L.take p ++ (x, k) :: L.drop p).map fun p => hashK P w p.2) →
      wpAny (model P w) A (do
        storeSet a (SetTable.insertAt es p (hashK P w k, Value.ref x)) t2
        if !false && t2.tooFull then setRelay a (SetTable.grown (es.size + 1))
        return true) Q E s := by
    intro t2 _ _ em el ef T2
    generalize SetTable.insertAt es p (hashK P w k, Value.ref x) = es1 at hin hes ⊢
    generalize L.take p ++ (x, k) :: L.drop p = L1 at pm hl hin T2
    refine wpAny_bind (wpAny_storeSet_of ho hd ?_ (by rw [hes, sizeLine_eq]; omega))
    have sb : Heap.SameBut a s.heap (s.heap.update a (Obj.putSet es1 t2)) := Heap.SameBut.update ..
    have ho1 := store_at (es' := es1) (t' := t2) ho hd
    generalize s.heap.update a (Obj.putSet es1 t2) = h1 at sb ho1 ⊢
    have tup1 : ∀ p ∈ L1, TupK P w h1 p.2 p.1 := fun p hp => by
      rcases List.mem_cons.mp (pm.mem_iff.mp hp) with e | hp
      · rw [e]; exact TupK.other hx ho hd sb
      · exact TupK.other (R.tup p hp) ho hd sb
    have ld1 : w.params.followText "set-order" = true ∨ t2.led = true := by rw [el, q5]; exact R.led
    have full : t2.tooFull = decide ((L.length + 1) * 5 ≥ t.mask * 3) := by
      rw [ef]
      unfold SetTable.tooFull
      rw [q9, q4, List.length_map]
    by_cases hf : (L.length + 1) * 5 ≥ t.mask * 3
    · have hf' : t2.tooFull = true := by rw [full]; exact decide_eq_true hf
      first
        | (refine wpAny_bind ?_; refine wp_if_pos (by simp [hf']) ?_)
        | (refine wp_if_pos (by simp [hf']) ?_; refine wpAny_bind ?_)
      rw [hsl]
      have sz1 : t2.place.size = es1.size := by rw [T2.sz, List.length_map, hl, hes]
      have two : (t.mask = 7 ∧ L.length = 4) ∨ (t.mask = 31 ∧ L.length = 18) := by
        rcases R.tab.mok with e | e | e <;> rw [e] at hf room
        · exact .inl ⟨e, by omega⟩
        · exact .inr ⟨e, by omega⟩
        · omega
      have go : ∀ M, SetTable.sizeAbove (SetTable.grown (L.length + 1)) - 1 = M → MaskOk M → SetTable.sizeAbove (SetTable.grown (L.length + 1)) ≤ 128 → (L.length + 1) * 5 < M * 3 →
          wpAny (model P w) A (setRelay a (SetTable.grown (L.length + 1))) (fun _ s' => wpAny (model P w) A (pure true) Q E s') E { s with heap := h1 } := fun M g1 g2 g3 g4 =>
        laid_anew (s := { s with heap := h1 }) ho1 ⟨hex.1, hex.2.1, hex.2.2⟩ rfl hin sz1 T2.dm (by rw [hes, em, q4]; rcases two with ⟨e, e2⟩ | ⟨e, e2⟩ <;> omega) tup1 ld1 (by rw [hl]; exact few) g1 g2 g3 (by rw [hl]; exact g4) fun h2 L2 es2 ep2 t3 sb2 R2 pm2 =>
          wpAny_pure (q h2 L2 es2 ep2 t3 (sb.trans sb2) R2 (pm2.trans pm))
      rcases two with ⟨_, e2⟩ | ⟨_, e2⟩
      · exact go 31 (by rw [e2, size_20]) (.inr (.inl rfl)) (by rw [e2, size_20]; decide) (by omega)
      · exact go 127 (by rw [e2, size_76]) (.inr (.inr rfl)) (by rw [e2, size_76]; decide) (by omega)
    · have hf' : t2.tooFull = false := by rw [full]; exact decide_eq_false hf
      first
        | refine wp_if_neg (by simp [hf']) ?_
        | (refine wpAny_bind ?_; refine wp_if_neg (by simp [hf']) ?_; refine wpAny_pure ?_)
      exact wpAny_pure (q h1 L1 es1 (ep + 1) t2 sb ⟨⟨_, ho1, ⟨hex.1, hex.2.1, hex.2.2⟩, rfl⟩, hin, T2, tup1, ld1, by rw [hl, em, q4]; omega⟩ pm)
  have byv : ∀ y : Bool, TabOk (if y = true then t1 else { t1 with plain := false }) ((L.take p ++ (x, k) :: L.drop p).map fun p => hashK P w p.2) := fun y => by
    cases y
    · exact ⟨q3.ris, q3.dm, q3.sz, q3.mok, q3.bd, q3.reach⟩
    · exact q3
  have fin : ∀ y : Bool, wpAny (model P w) A (do
        storeSet a (SetTable.insertAt es p (hashK P w k, Value.ref x)) (if y = true then t1 else { t1 with plain := false })
        if !false && (if y = true then t1 else { t1 with plain := false }).tooFull then setRelay a (SetTable.grown (es.size + 1))
        return true) Q E s := fun y => rest _ (by cases y <;> rfl) (by cases y <;> rfl) (by cases y <;> rfl) (by cases y <;> rfl) (by cases y <;> rfl) (byv y)
  by_cases hp1 : t1.plain = true
  · first
      | exact wpAny_bind (wp_if_pos hp1 (byValue_tup hx fun y => fin y))
      | exact wp_if_pos hp1 (wpAny_bind (byValue_tup hx fun y => fin y))
  · first
      | exact wpAny_bind (wp_if_neg hp1 (wpAny_pure (fin true)))
      | exact wp_if_neg hp1 (wpAny_bind (wpAny_pure (fin true)))
      | exact wp_if_neg hp1 (fin true)
end
end VLK

end

section
set_option Elab.async false
set_option linter.all false
set_option maxRecDepth 100000
namespace VLK
open PySem PySem.Spec PyProof.Rows L2
section
variable {P : Program} {w : World} {A : Around} {E : Value → Shared → Prop} {s : Shared}
theorem TupK.stays {h h' : Heap} {k : List L2.Key} {b : Addr} (x : TupK P w h k b) (hk : ∀ c o, h.get? c = some o → h'.get? c = some o) : TupK P w h' k b := by
  obtain ⟨o, items, n, ho, r⟩ := x
  exact ⟨o, items, n, hk b o ho, r⟩
theorem SetK.stays {h h' : Heap} {a : Addr} {L : List Rw} {es : Array (Int × Value)} {ep : Nat} {t : SetTable} (R : SetK P w h a L es ep t) (ha : ∀ o, h.get? a = some o → h'.get? a = some o) (ht : ∀ p ∈ L, TupK P w h' p.2 p.1) : SetK P w h' a L es ep t := by
  obtain ⟨o, ho, r⟩ := R.ob
  exact ⟨⟨o, ha o ho, r⟩, R.rows, R.tab, ht, R.led, R.room⟩
noncomputable abbrev newSet (w : World) : Obj := { cls := .type "set", dict := none, data := .set #[] 0 (.fresh 0 0 (!w.params.followText "set-order")) }
theorem SetK.empty {h : Heap} {a : Addr} (ho : h.get? a = some (newSet w)) : SetK P w h a [] #[] 0 (.fresh 0 0 (!w.params.followText "set-order")) where
  ob := ⟨_, ho, ⟨rfl, rfl, rfl⟩, rfl⟩
  rows := rfl
  tab := ⟨List.Pairwise.nil, rfl, rfl, .inl rfl, fun _ hx => (nomatch hx), fun i h j hi => (by simp at hi)⟩
  tup := fun _ hp => (nomatch hp)
  led := by
    show _ ∨ (!w.params.followText "set-order") = true
    cases w.params.followText "set-order"
    · exact .inr rfl
    · exact .inl rfl
  room := by
    show 0 * 5 < 7 * 3
    decide
theorem fill_loop {I : Addr} {fp wr : List Addr} {G : Array GenState → Array GenState → Prop} {n : Nat} {Pv : Nat → Value → Prop} {St : Nat → Shared → Prop} {R : Result → Shared → Prop}
    (W : WalksS P w A.in1 I fp wr G n Pv St) (S : Addr) (hSf : S ∉ fp) (ks : List Rw) (nd : (ks.map (·.2)).Nodup) (hn : n = ks.length) (few : ks.length < 64) (hval : ∀ i v, Pv i v → ∃ p, ks[i]? = some p ∧ v = .ref p.1)
    (h0 : Heap) (hk : ∀ p ∈ ks, TupK P w h0 p.2 p.1) (hS0 : h0.get? S = none) (hw0 : ∀ b ∈ wr, h0.get? b = none) (hu : A.in1.units < cLine) :
    ∀ (k i : Nat) (s : Shared), n - i = k → i ≤ n → St i s → (∀ b o, h0.get? b = some o → s.heap.get? b = some o) → (∃ L es ep t, SetK P w s.heap S L es ep t ∧ L.Perm (ks.take i)) →
      (∀ s' L es ep t, Moved (S :: wr) G s s' → SetK P w s'.heap S L es ep t → L.Perm ks → (∀ b o, h0.get? b = some o → s'.heap.get? b = some o) → R (.ok (.ret .none)) s') →
      codeAny (model P w) A (.builtin "set.update.loop" ⟨[.ref S, .ref I], []⟩) R s := by
  have hSw : S ∉ wr := fun h => hSf (W.sub _ h)
  have wide : ∀ b ∈ wr, b ∈ S :: wr := fun b hb => List.mem_cons_of_mem _ hb
  have old : ∀ {s s' : Shared}, Moved wr G s s' → (∀ b o, h0.get? b = some o → s.heap.get? b = some o) → ∀ b o, h0.get? b = some o → s'.heap.get? b = some o := fun hm hkp b o e =>
    hm.heap b o (fun hb => by rw [hw0 b hb] at e; cases e) (hkp b o e)
  intro k
  induction k with
  | zero =>
    intro i s hk' hi hst hkp ⟨L, es, ep, t, hS, pm⟩ hR
    obtain rfl : i = n := by omega
    refine codeAny_builtin F.entry_set_update_loop ?_
    rw [Around.under_plainId F.plain_set_update_loop _]
    show wpAny _ A.in1 (pyNext (.ref I) >>= _) _ _ s
    refine wpAny_bind (W.done s _ _ hst fun s' hm => ?_)
    show wpAny _ A.in1 (ret Value.none) _ _ s'
    have hkp' := old hm hkp
    rw [hn, List.take_length] at pm
    exact wpAny_pure (hR s' L es ep t (hm.mono wide) (hS.stays (fun o e => hm.heap S o hSw e) fun p hp => TupK.stays (hk p (pm.mem_iff.mp hp)) hkp') pm hkp')
  | succ k ih =>
    intro i s hk' hi hst hkp ⟨L, es, ep, t, hS, pm⟩ hR
    have hlt : i < n := by omega
    refine codeAny_builtin F.entry_set_update_loop ?_
    rw [Around.under_plainId F.plain_set_update_loop _]
    show wpAny _ A.in1 (pyNext (.ref I) >>= _) _ _ s
    refine wpAny_bind (W.item i s _ _ hlt hst fun v s' hP hst' hm => ?_)
    obtain ⟨p, hp, rfl⟩ := hval i v hP
    have hkp' := old hm hkp
    have inn : ∀ q ∈ L, q ∈ ks := fun q hq => List.mem_of_mem_take (pm.mem_iff.mp hq)
    have hS' : SetK P w s'.heap S L es ep t := hS.stays (fun o e => hm.heap S o hSw e) fun q hq => TupK.stays (hk q (inn q hq)) hkp'
    have hx : TupK P w s'.heap p.2 p.1 := TupK.stays (hk p (List.mem_of_getElem? hp)) hkp'
    have tk : ks.take (i + 1) = ks.take i ++ [p] := by
      rw [List.take_succ, hp]
      rfl
    have new : ∀ q ∈ L, q.2 ≠ p.2 := fun q hq e => by
      have h1 : (ks.take (i + 1)).map (·.2) = (ks.take i).map (·.2) ++ [p.2] := by rw [tk, List.map_append]; rfl
      have h2 : ((ks.take (i + 1)).map (·.2)).Nodup := by
        rw [List.map_take]
        exact (List.take_sublist _ _).nodup nd
      rw [h1] at h2
      exact (List.nodup_append.mp h2).2.2 q.2 (List.mem_map_of_mem (pm.mem_iff.mp hq)) p.2 (List.mem_singleton.mpr rfl) e
    have lL : L.length ≤ i := by
      rw [pm.length_eq, List.length_take]
      omega
    show wpAny _ A.in1 (holding [Value.ref p.1] (setAdd S (.ref p.1)) >>= _) _ _ s'
    refine wpAny_bind (wpAny_holding ?_)
    unfold setAdd
    refine wpAny_holding (wpAny_bind (wpAny_pyHash_tuple hu hx ?_))
    refine add_new (s := { s' with toks := s'.toks + (p.2.length + 1) }) hS' hx new hu (by omega) fun h' L' es' ep' t' hsb hS2 pm2 => ?_
    have g' : L'.Perm (ks.take (i + 1)) := by
      rw [tk]
      refine pm2.trans ?_
      refine (List.Perm.cons _ pm).trans ?_
      exact (List.perm_append_singleton p (ks.take i)).symm
    have hkp2 : ∀ b o, h0.get? b = some o → h'.get? b = some o := fun b o e => (hsb.2 b (fun z => by rw [z, hS0] at e; cases e)).trans (hkp' b o e)
    refine wpAny_pure ⟨plainId_quiet F.plain_set_update_loop _, ih (i + 1) _ (by omega) hlt (W.frame _ s' _ _ hst' (Nat.le_add_right _ _) fun b hb o e => ?_) hkp2 ⟨L', es', ep', t', hS2, g'⟩ fun s'' L2 es2 ep2 t2 hm'' hS'' g'' hkp'' => ?_⟩
    · rw [hsb.2 b (fun h : b = S => hSf (by rw [← h]; exact hb))]
      exact e
    · refine hR s'' L2 es2 ep2 t2 (Moved.trans W.gtrans ((hm.mono wide).then_heap (Nat.le_add_right _ _) fun b o hb e => ?_) hm'') hS'' g'' hkp''
      rw [hsb.2 b (fun h : b = S => hb (by rw [h]; exact List.mem_cons_self))]
      exact e
end
end VLK

end

section
set_option Elab.async false
set_option linter.all false
set_option maxRecDepth 100000
namespace VLK
open PySem PySem.Spec PyProof.Rows L2
section
variable {P : Program} {w : World} {A : Around} {E : Value → Shared → Prop} {s : Shared}
set_option maxHeartbeats 3200000 in
theorem call_set_new {l : Addr} {items : Array Value} (ks : List Rw) (nd : (ks.map (·.2)).Nodup) {Q : Value → Shared → Prop} (hh : A.handled = none) (hl : s.heap.IsList l items) (hit : items.toList = ks.map fun p => Value.ref p.1) (hk : ∀ p ∈ ks, TupK P w s.heap p.2 p.1) (few : ks.length < 64) (hu : A.units + 3 < cLine)
    (h : ∀ (h' : Heap) (tk : Nat) L es ep t, SetK P w h' s.heap.objs.size L es ep t → L.Perm ks → (∀ b o, s.heap.get? b = some o → h'.get? b = some o) → Q (.ref s.heap.objs.size) { s with heap := h', toks := tk }) :
    wpAny (model P w) A (call (.type "set") [.ref l]) Q E s := by
  have hisz : items.size = ks.length := by
    have q := congrArg List.length hit
    rw [Array.length_toList, List.length_map] at q
    exact q
  obtain ⟨c, tl, hmro⟩ := F.called_set.mro
  have hmade := F.called_set.made
  have hsub := F.called_set.sub
  refine wpAny_call (codeAny_of_tree ?_)
  show wpAny _ _ (callAny (.type "set") _) _ _ _
  refine wpAny_pure ⟨Code.quiet_builtin _ (by decide +kernel), codeAny_builtin F.entry_type_call ?_⟩
  rw [Around.under_plain (weight_type_call_type "set" [.ref l] []) rfl]
  have h1 := F.called_set.notType
  have h2 := F.called_set.canCreate
  have hct := F.typeCall_set_1 (.ref l)
  repeat (any_goals (first | assumption | wp_step))

  refine codeAny_mono (code_set_led1 (.ref l) (E := E) (Q₁ := fun obj s₁ => obj = .ref s.heap.objs.size ∧ s₁ = { s with heap := s.heap.push { cls := .type "set", dict := none, data := .set #[] 0 (.fresh 0 0 (!w.params.followText "set-order")) } }) ⟨rfl, rfl⟩) fun r s₁ hr => ?_
  cases r with
  | error e => exact hr
  | ok fl =>
    cases fl with
    | ret obj =>
      obtain ⟨rfl, rfl⟩ := hr
      have hS : (s.heap.push { cls := .type "set", dict := none, data := .set #[] 0 (.fresh 0 0 (!w.params.followText "set-order")) }).get? s.heap.objs.size = some { cls := .type "set", dict := none, data := .set #[] 0 (.fresh 0 0 (!w.params.followText "set-order")) } := Heap.get?_push_size _ rfl
      have hT : Shared.TypeIs { s with heap := s.heap.push { cls := .type "set", dict := none, data := .set #[] 0 (.fresh 0 0 (!w.params.followText "set-order")) } } (.ref s.heap.objs.size) "set" := ⟨_, hS, rfl⟩
      have hli := F.called_set.init.lookup
      have hbi := F.called_set.init.bind (.ref s.heap.objs.size)
      repeat (any_goals (first | assumption | wp_step))

      refine codeAny_mono (codeAny_call_builtin (R := wants (fun r s₂ => r = .none ∧ ∃ h' tk L es ep t, s₂ = { s with heap := h', toks := tk } ∧ SetK P w h' s.heap.objs.size L es ep t ∧ L.Perm ks ∧
          (∀ b o, s.heap.get? b = some o → h'.get? b = some o)) E) F.called_set.init.plain F.entry_set_init (check_set_init_1 hT ?_)) fun r₂ s₂ hr₂ => ?_
      · obtain ⟨ol, hol, hcl, nl, hdl⟩ := hl
        obtain ⟨ocls, odict, odata, oslots⟩ := ol
        simp only at hcl hdl
        subst hcl; subst hdl
        have hol' : (s.heap.push { cls := .type "set", dict := none, data := .set #[] 0 (.fresh 0 0 (!w.params.followText "set-order")) }).get? l = some { cls := .type "list", dict := odict, data := .seq items nl, slots := oslots } := Heap.get?_push_of_some _ hol
        have hsls := F.sub_list_set
        have hslf := F.sub_list_frozenset
        have hne : (Value.type "list" == Value.type "dict") = false := by decide
        have hl1 : (s.heap.push { cls := .type "set", dict := none, data := .set #[] 0 (.fresh 0 0 (!w.params.followText "set-order")) }).IsList l items := ⟨_, hol', rfl, nl, rfl⟩
        unfold Builtin.«set.__init__» noKeywords Builtin.Frozenset.updateFrom
        generalize hPI : pyIter = PI
        wp_walk
        subst hPI

        refine wpAny_pyIter_list hl1 ?_
        refine wpAny_bind (wpAny_runValue ?_)
        have hlS : l < s.heap.objs.size := Heap.lt_size hol
        have hh3 : A.in1.in1.in1.handled = none := by simp [hh]
        have hz1 : (s.heap.push { cls := .type "set", dict := none, data := .set #[] 0 (.fresh 0 0 (!w.params.followText "set-order")) }).objs.size = s.heap.objs.size + 1 := Heap.size_push ..
        have hneI : l ≠ (s.heap.push { cls := .type "set", dict := none, data := .set #[] 0 (.fresh 0 0 (!w.params.followText "set-order")) }).objs.size := by
          rw [Heap.size_push]; exact Nat.ne_of_lt (Nat.lt_succ_of_lt hlS)
        have hSf : s.heap.objs.size ∉ [(s.heap.push { cls := .type "set", dict := none, data := .set #[] 0 (.fresh 0 0 (!w.params.followText "set-order")) }).objs.size, l] := by
          rw [Heap.size_push]; simp only [List.mem_cons, List.mem_singleton, List.not_mem_nil, or_false, not_or]
          exact ⟨Nat.ne_of_lt (Nat.lt_succ_self _), Nat.ne_of_gt hlS⟩
        have hval : ∀ (i : Nat) (v : Value), items[i]? = some v → ∃ p, ks[i]? = some p ∧ v = .ref p.1 := fun i v hv => by
          have q : items.toList[i]? = some v := by rw [Array.getElem?_toList]; exact hv
          rw [hit, List.getElem?_map] at q
          cases hq : ks[i]? with
          | none => rw [hq] at q; cases q
          | some p =>
            rw [hq] at q
            exact ⟨p, rfl, (Option.some.inj q).symm⟩
        have beyond : ∀ b, s.heap.objs.size ≤ b → s.heap.get? b = none := fun b hb => by
          cases q : s.heap.get? b with
          | none => rfl
          | some o => exact absurd (Nat.lt_of_lt_of_le (Heap.lt_size q) hb) (Nat.lt_irrefl _)
        refine fill_loop ((Walks.list hh3 _ l hneI items).toS) s.heap.objs.size
          hSf ks nd hisz few hval s.heap hk (beyond _ (Nat.le_refl _)) (fun b hb => beyond b (by
            rw [List.mem_singleton.mp hb, Heap.size_push]
            exact Nat.le_succ _)) hu (items.size - 0) 0 _ (by omega) (Nat.zero_le _)
          ⟨⟨_, Heap.get?_push_size _ rfl, rfl, rfl⟩, (hl1.push _)⟩ (fun b o e => Heap.get?_push_of_some _ (Heap.get?_push_of_some _ e)) ?hS0 ?hR
        case hS0 =>
          have hget : ((s.heap.push { cls := .type "set", dict := none, data := .set #[] 0 (.fresh 0 0 (!w.params.followText "set-order")) }).push { cls := .type "list_iterator", data := .fields #[.ref l, .int 0 0] }).get? s.heap.objs.size
              = some { cls := .type "set", dict := none, data := .set #[] 0 (.fresh 0 0 (!w.params.followText "set-order")) } := Heap.get?_push_of_some _ hS
          exact ⟨[], #[], 0, _, SetK.empty hget, by rw [List.take_zero]⟩
        case hR =>
          intro s' L es ep t hm hS' g' hkp
          obtain ⟨h', g2, d', tk', os'⟩ := s'
          have eg : g2 = s.gens := hm.gens
          have ed : d' = s.drawn := hm.drawn
          have eo : os' = s.os := hm.os
          subst eg; subst ed; subst eo
          show wpAny _ _ _ _ _ _
          refine wpAny_pure ?_
          show wpAny _ _ (ret Value.none) _ _ _
          exact wpAny_pure ⟨rfl, h', tk', L, es, ep, t, rfl, hS', g', hkp⟩

      · cases r₂ with
        | error e => exact hr₂
        | ok fl₂ =>
          cases fl₂ with
          | ret r =>
            obtain ⟨rfl, h', tk, L, es, ep, t, rfl, hS', g', hk'⟩ := hr₂
            repeat (any_goals (first | assumption | wp_step))
            exact h _ _ _ _ _ _ hS' g' hk'
          | _ => exact hr₂.elim
    | _ => exact hr.elim
end
end VLK

end

section
set_option Elab.async false
set_option linter.all false
set_option maxRecDepth 100000
namespace VLK
open PySem PySem.Spec PyProof.Rows L2
section
variable {X : Cx}
theorem refs_rows : ∀ {ks : List Rw} {us : List Value}, Vals (ks.map fun p => V.ref p.1) us → us = ks.map fun p => Value.ref p.1
  | [], _, .nil => rfl
  | p :: ks, _, .cons r t => by
    cases r
    rw [refs_rows t]
    rfl
theorem inv_tup {pins : List (Addr × Obj)} {σ : L2.St} {H : Hp} {s : Shared} {b : Addr} {k : List L2.Key} (I : Inv X pins σ H s) (h : SqT X.K H b (k.map kV)) : TupK X.prog X.w s.heap k b := by
  obtain ⟨its, r, ⟨o, ho, hc, n, hd⟩, _⟩ := I.tuple h
  exact ⟨o, its.toArray, n, ho, hc, hd, by simpa using items_are r⟩
end
end VLK
namespace VL
open PySem PySem.Spec PyProof.Rows L2
noncomputable def rowK : PyData → Option (List L2.Key)
  | .tuple xs => keysD xs
  | _ => none
noncomputable def rowsK : List PyData → Option (List (List L2.Key))
  | [] => some []
  | d :: ds => match rowK d, rowsK ds with
    | some k, some ks => some (k :: ks)
    | _, _ => none
section
variable {X : Cx} {T : List Nat} {W : WV} {K : Fg}
theorem rows_vs {F H : Hp} (s : Same F H) : ∀ {ds : List PyData} {vs : List V} {ks : List (List L2.Key)}, DqAll K F vs ds → rowsK ds = some ks → ∃ rs : List VLK.Rw, vs = rs.map (fun p => V.ref p.1) ∧ rs.map (·.2) = ks ∧ ∀ p ∈ rs, SqT K H p.1 (p.2.map kV)
  | [], _, ks, .nil, e => by
    simp only [rowsK] at e
    cases e
    exact ⟨[], rfl, rfl, fun _ h => nomatch h⟩
  | d :: ds, _, ks, .cons h t, e => by
    simp only [rowsK] at e
    split at e
    · rename_i k ks' h1 h2
      cases e
      obtain ⟨rs, rfl, rfl, hr⟩ := rows_vs s t h2
      cases d with
      | tuple xs =>
        obtain ⟨a, us, rfl, sq, ha, _⟩ := DpS.tup s (.inl h)
        rw [keysD_ok ha h1] at sq
        exact ⟨(a, k) :: rs, rfl, rfl, fun p hp => by
          rcases List.mem_cons.mp hp with z | z
          · rw [z]; exact sq
          · exact hr p z⟩
      | _ => cases h1
    · cases e
end
end VL

end

section
set_option Elab.async false
set_option linter.all false
set_option maxRecDepth 100000
namespace VLKB
open PySem PySem.Spec PyProof.Rows L2 VLK VLB
section
variable {P : Program} {w : World} {A : Around} {E : Value → Shared → Prop} {s : Shared}
structure SetB (P : Program) (w : World) (h : Heap) (a : Addr) (L : List Rw) (es : Array (Int × Value)) (ep : Nat) (t : SetTable) : Prop where
  ob : ∃ o, h.get? a = some o ∧ o.ExactSet ∧ o.data = .set es ep t
  rows : es.toList = L.map (ent P w)
  tab : TabB t (L.map fun p => hashK P w p.2)
  tup : ∀ p ∈ L, TupK P w h p.2 p.1
  led : w.params.followText "set-order" = true ∨ t.led = true
  room : L.length * 5 < t.mask * 3
  four : t.mask = 7 ∨ t.mask = 31 ∨ t.mask = 127 ∨ t.mask = 511
variable {a : Addr} {L : List Rw} {es : Array (Int × Value)} {ep : Nat} {t : SetTable}
theorem SetB.size (R : SetB P w s.heap a L es ep t) : es.size = L.length := by
  rw [← Array.length_toList, R.rows, List.length_map]
theorem SetB.places (R : SetB P w s.heap a L es ep t) : t.place.size = L.length := by
  rw [← R.tab.len, List.length_map]
theorem fits_of (hd : t.dummies = #[]) (h1 : t.place.size = es.size) (h2 : es.size ≤ t.mask) : t.fits es.size = true := by
  unfold SetTable.fits SetTable.fill
  rw [hd, Bool.and_eq_true, beq_iff_eq, decide_eq_true_eq]
  show t.place.size = es.size ∧ t.place.size + 0 ≤ t.mask
  omega
theorem SetB.fits (R : SetB P w s.heap a L es ep t) : t.fits es.size = true := fits_of R.tab.dm (by rw [R.places, R.size]) (by have := R.room; rw [R.size]; omega)
theorem SetB.at (R : SetB P w s.heap a L es ep t) {i : Nat} {p : Rw} (h : L[i]? = some p) : es[i]? = some (ent P w p) := by
  rw [← Array.getElem?_toList, R.rows, List.getElem?_map, h]
  rfl
theorem SetB.whole (R : SetB P w s.heap a L es ep t) : ¬ t.gaveWay = true := by
  unfold SetTable.gaveWay
  rw [R.tab.g.odd]
  decide
theorem find_new (R : SetB P w s.heap a L es ep t) {x : Addr} {k : List L2.Key} (hx : TupK P w s.heap k x) (hn : ∀ p ∈ L, p.2 ≠ k) (hu : A.units < cLine) {K : Nat} (hK0 : K < 10 * SetTable.turns t.mask)
    (hK : way t.mask (hashK P w k) K ∉ t.place.toList) (hb : ∀ c, c < K → way t.mask (hashK P w k) c ∈ t.place.toList) {Q : SetFound → Shared → Prop} (q : Q (.free (way t.mask (hashK P w k) K) false) s) :
    ∀ (f c : Nat) (stand : Option SetTable.Probe), stand.getD (t.probeStart (hashK P w k)) = nth t.mask (runAt t.mask (SetTable.bits (hashK P w k) % (t.mask + 1)) (SetTable.bits (hashK P w k))) c → c ≤ K → K - c < f →
      wpAny (model P w) A (setSearchFrom a (.ref x) (hashK P w k) true f stand) Q E s
  | 0, _, _, _, _, hf => absurd hf (Nat.not_lt_zero _)
  | f + 1, c, stand, hst, hc, hf => by
    obtain ⟨o, ho, hex, hd⟩ := R.ob
    rw [setSearchFrom_succ]
    refine wpAny_bind (wpAny_setState_of ho hd R.fits ?_)
    dsimp only
    refine wp_if_neg R.whole ?_
    try refine wpAny_bind (wpAny_pure ?_)
    have e1 : ∀ j, nth t.mask (nth t.mask (runAt t.mask (SetTable.bits (hashK P w k) % (t.mask + 1)) (SetTable.bits (hashK P w k))) c) j = nth t.mask (runAt t.mask (SetTable.bits (hashK P w k) % (t.mask + 1)) (SetTable.bits (hashK P w k))) (c + j) := fun j => (nth_add t.mask c _ j).symm
    have e2 : ∀ j, (nth t.mask (nth t.mask (runAt t.mask (SetTable.bits (hashK P w k) % (t.mask + 1)) (SetTable.bits (hashK P w k))) c) j).j = way t.mask (hashK P w k) (c + j) := fun j => congrArg SetTable.Probe.j (e1 j)
    have last : c + (K - c) = K := by omega
    have sp := go_spec t R.tab.up R.tab.dm (fun i => (es[i]?.map (·.1)).getD 0) (hashK P w k) (10 * SetTable.turns t.mask) (K - c) _ (no_dummy c _ rfl) (by omega) (fun j hj => by rw [e2]; exact hb (c + j) (by omega)) (by rw [e2, last]; exact hK)
    rcases sp with ⟨j, i, hj, hi, _, _, pr⟩ | ⟨_, pr⟩
    · have pr' : t.probe (fun i => (es[i]?.map (·.1)).getD 0) (hashK P w k) (stand.getD (t.probeStart (hashK P w k))) = some (.candidate (way t.mask (hashK P w k) (c + j)) i (nth t.mask (runAt t.mask (SetTable.bits (hashK P w k) % (t.mask + 1)) (SetTable.bits (hashK P w k))) (c + (j + 1)))) := by
        rw [hst, ← e2, ← e1]
        exact pr
      rw [pr']
      dsimp only
      rw [e2] at hi
      have il : i < L.length := by
        have h1 := (List.getElem?_eq_some_iff.mp hi).1
        rw [Array.length_toList, R.places] at h1
        exact h1
      obtain ⟨p, hp⟩ : ∃ p, L[i]? = some p := ⟨_, List.getElem?_eq_getElem il⟩
      have pm := List.mem_of_getElem? hp
      have un : decide (p.2 = k) = false := decide_eq_false (hn p pm)
      have go : wpAny (model P w) A (searchRest a (.ref x) (hashK P w k) true f es t (way t.mask (hashK P w k) (c + j)) i (nth t.mask (runAt t.mask (SetTable.bits (hashK P w k) % (t.mask + 1)) (SetTable.bits (hashK P w k))) (c + (j + 1)))) Q E s := by
        unfold searchRest
        rw [R.at hp]
        dsimp only [ent]
        refine wpAny_bind (wpAny_holding (wpAny_eqBool_tuple hu (R.tup p pm) hx ?_))
        refine wpAny_bind (wpAny_setState_of ho hd R.fits ?_)
        dsimp only
        refine wp_if_neg (by simp [un]) ?_
        try refine wpAny_bind (wpAny_pure ?_)
        rw [sameMem]
        dsimp only
        simp only [if_true, slot_live R.tab.up hi, R.at hp, ent]
        refine wpAny_bind (wpAny_isSame_ref_self (wpAny_bind (wpAny_pure ?_)))
        simp only [if_true]
        exact wp_if_neg (by simp [un]) (find_new R hx hn hu hK0 hK hb q f (c + (j + 1)) _ rfl (by omega) (by omega))
      by_cases hl : t.led = true
      · refine wp_if_neg (by simp [hl]) ?_
        try refine wpAny_bind (wpAny_pure ?_)
        exact go
      · refine wp_if_pos (by simp [hl]) (wpAny_bind (unseen hx (fun y hy => ?_) ?_))
        · obtain ⟨e, he, ee⟩ := List.mem_map.mp hy
          have he1 : e ∈ es ∧ e.1 = hashK P w k := by simpa using he
          have he2 : e ∈ es.toList := by simpa using he1.1
          rw [R.rows] at he2
          obtain ⟨p2, hp2, q2⟩ := List.mem_map.mp he2
          exact ⟨p2.2, p2.1, by rw [← ee, ← q2]; rfl, R.tup p2 hp2⟩
        · refine wp_if_neg (by decide) ?_
          try refine wpAny_bind (wpAny_pure ?_)
          exact go
    · have pr' : t.probe (fun i => (es[i]?.map (·.1)).getD 0) (hashK P w k) (stand.getD (t.probeStart (hashK P w k))) = some (.empty (way t.mask (hashK P w k) K) none) := by
        rw [hst, show way t.mask (hashK P w k) K = (nth t.mask (nth t.mask (runAt t.mask (SetTable.bits (hashK P w k) % (t.mask + 1)) (SetTable.bits (hashK P w k))) c) (K - c)).j by rw [e2, last]]
        exact pr
      rw [pr']
      dsimp only
      exact wpAny_pure q
theorem laid_anew {o : Obj} (ho : s.heap.get? a = some o) (hex : o.ExactSet) (hd : o.data = .set es ep t) (hr : es.toList = L.map (ent P w)) (hsz : t.place.size = es.size) (hdm : t.dummies = #[]) (hfl : es.size ≤ t.mask)
    (tup : ∀ p ∈ L, TupK P w s.heap p.2 p.1) (ld : w.params.followText "set-order" = true ∨ t.led = true) (few : L.length < 300) {wanted M : Nat} (hw : SetTable.sizeAbove wanted - 1 = M) (hM : Good M) (hM4 : M = 7 ∨ M = 31 ∨ M = 127 ∨ M = 511) (hw2 : SetTable.sizeAbove wanted ≤ 512) (hn : L.length * 5 < M * 3)
    {Q : Unit → Shared → Prop} (q : ∀ h' L' es' ep' t', Heap.SameBut a s.heap h' → SetB P w h' a L' es' ep' t' → L'.Perm L → Q () { s with heap := h' }) : wpAny (model P w) A (setRelay a wanted) Q E s := by
  have hsl : es.size = L.length := by rw [← Array.length_toList, hr, List.length_map]
  obtain ⟨t', order, e, hp, T, em, el⟩ := anew_ok t (hs := es.map (·.1)) (wanted := wanted) hw hM (by rw [Array.size_map, hsl]; omega)
  rw [Array.size_map, hsl] at hp
  obtain ⟨L2, r1, r2, r3⟩ := reorder hr hp
  rw [← r3] at T
  have hs2 : (order.filterMap (es[·]?)).size = es.size := by rw [← Array.length_toList, r1, List.length_map, r2.length_eq, hsl]
  rw [setRelay_eq]
  refine wpAny_bind (wpAny_setState_of ho hd (fits_of hdm hsz hfl) ?_)
  dsimp only
  refine wp_if_neg (by rw [sizeLine_eq]; omega) ?_
  try refine wpAny_bind (wpAny_pure ?_)
  rw [e]
  dsimp only
  refine wpAny_bind (wp_if_neg (by rw [hs2]; simp) ?_)
  try refine wpAny_bind (wpAny_pure ?_)
  refine wpAny_pure ?_
  dsimp only
  refine wpAny_storeSet_of ho hd ?_ (by rw [hs2, hsl, sizeLine_eq]; omega)
  have sb : Heap.SameBut a s.heap (s.heap.update a (Obj.putSet (order.filterMap (es[·]?)) t')) := Heap.SameBut.update ..
  exact q _ L2 (order.filterMap (es[·]?)) (ep + 1) t' sb ⟨⟨_, store_at ho hd, ⟨hex.1, hex.2.1, hex.2.2⟩, rfl⟩, r1, T, fun p hpm => (tup p (r2.mem_iff.mp hpm)).other ho hd sb, by rw [el]; exact ld, by rw [r2.length_eq, em]; exact hn, by rw [em]; exact hM4⟩ r2
theorem add_new (R : SetB P w s.heap a L es ep t) {x : Addr} {k : List L2.Key} (hx : TupK P w s.heap k x) (hn : ∀ p ∈ L, p.2 ≠ k) (hu : A.units < cLine) (few : L.length + 1 < 300) {Q : Bool → Shared → Prop}
    (q : ∀ h' L' es' ep' t', Heap.SameBut a s.heap h' → SetB P w h' a L' es' ep' t' → L'.Perm ((x, k) :: L) → Q true { s with heap := h' }) : wpAny (model P w) A (setAddHashed a (.ref x) (hashK P w k)) Q E s := by
  obtain ⟨o, ho, hex, hd⟩ := R.ob
  have hsl := R.size
  have room := R.room
  unfold setAddHashed
  refine wpAny_holding ?_
  rw [show (100000 : Nat) = 99999 + 1 from rfl, setAddHashedIn_succ]
  refine wpAny_bind (wpAny_setState_of ho hd R.fits ?_)
  dsimp only
  refine wp_if_neg (by simp [byScan, Value.scannable]) ?_
  try refine wpAny_bind (wpAny_pure ?_)
  obtain ⟨K, hK0, hK, hb⟩ := R.tab.first (by rw [List.length_map]; omega) (hashK P w k)
  have big : K < 100000 := by
    have := R.tab.g.le
    have : 10 * SetTable.turns t.mask ≤ 5260 := by
      unfold SetTable.turns
      omega
    omega
  unfold setSearch
  refine wpAny_bind (find_new R hx hn hu hK0 hK hb ?_ 100000 0 none rfl (Nat.zero_le _) (by omega))
  dsimp only
  refine wpAny_bind (wpAny_setState_of ho hd R.fits ?_)
  dsimp only
  have q1 : (t.put (way t.mask (hashK P w k) K)).2 = SetTable.below t.place (way t.mask (hashK P w k) K) := rfl
  have q3 := R.tab.put hK hb rfl
  have q4 : (t.put (way t.mask (hashK P w k) K)).1.mask = t.mask := rfl
  have q5 : (t.put (way t.mask (hashK P w k) K)).1.led = t.led := rfl
  have q9 := R.tab.fill (way t.mask (hashK P w k) K)
  generalize hpt : t.put (way t.mask (hashK P w k) K) = pt at q1 q3 q4 q5 q9 ⊢
  obtain ⟨t1, p⟩ := pt
  dsimp only at q1 q3 q4 q5 q9 ⊢
  subst q1
  generalize hpp : SetTable.below t.place (way t.mask (hashK P w k) K) = p at q3 ⊢
  have pm : (L.take p ++ (x, k) :: L.drop p).Perm ((x, k) :: L) := by
    have := List.perm_middle (a := ((x, k) : Rw)) (l₁ := L.take p) (l₂ := L.drop p)
    rwa [List.take_append_drop] at this
  have hin : (SetTable.insertAt es p (hashK P w k, Value.ref x)).toList = (L.take p ++ (x, k) :: L.drop p).map (ent P w) := by
    rw [SetTable.toList_insertAt, R.rows, List.map_append, List.map_cons, List.map_take, List.map_drop]
    rfl
  have hh : (L.take p ++ (x, k) :: L.drop p).map (fun p => hashK P w p.2) = (L.map fun p => hashK P w p.2).take p ++ hashK P w k :: (L.map fun p => hashK P w p.2).drop p := by
    rw [List.map_append, List.map_cons, List.map_take, List.map_drop]
  rw [← hh] at q3
  have hl := pm.length_eq
  rw [List.length_cons] at hl
  have hes : (SetTable.insertAt es p (hashK P w k, Value.ref x)).size = L.length + 1 := by rw [← Array.length_toList, hin, List.length_map, hl]
  -- whatever is known of the values' kinds
  have rest : ∀ t2 : SetTable, t2.place = t1.place → t2.dummies = t1.dummies → t2.mask = t1.mask → t2.led = t1.led → t2.tooFull = t1.tooFull → TabB t2 ((L.take p ++ (x, k) :: L.drop p).map fun p => hashK P w p.2) →
      wpAny (model P w) A (do
        storeSet a (SetTable.insertAt es p (hashK P w k, Value.ref x)) t2
        if !false && t2.tooFull then setRelay a (SetTable.grown (es.size + 1))
        return true) Q E s := by
    intro t2 _ _ em el ef T2
    generalize SetTable.insertAt es p (hashK P w k, Value.ref x) = es1 at hin hes ⊢
    generalize L.take p ++ (x, k) :: L.drop p = L1 at pm hl hin T2
    refine wpAny_bind (wpAny_storeSet_of ho hd ?_ (by rw [hes, sizeLine_eq]; omega))
    have sb : Heap.SameBut a s.heap (s.heap.update a (Obj.putSet es1 t2)) := Heap.SameBut.update ..
    have ho1 := store_at (es' := es1) (t' := t2) ho hd
    generalize s.heap.update a (Obj.putSet es1 t2) = h1 at sb ho1 ⊢
    have tup1 : ∀ p ∈ L1, TupK P w h1 p.2 p.1 := fun p hp => by
      rcases List.mem_cons.mp (pm.mem_iff.mp hp) with e | hp
      · rw [e]; exact TupK.other hx ho hd sb
      · exact TupK.other (R.tup p hp) ho hd sb
    have ld1 : w.params.followText "set-order" = true ∨ t2.led = true := by rw [el, q5]; exact R.led
    have full : t2.tooFull = decide ((L.length + 1) * 5 ≥ t.mask * 3) := by
      rw [ef]
      unfold SetTable.tooFull
      rw [q9, q4, List.length_map]
    by_cases hf : (L.length + 1) * 5 ≥ t.mask * 3
    · have hf' : t2.tooFull = true := by rw [full]; exact decide_eq_true hf
      first
        | (refine wpAny_bind ?_; refine wp_if_pos (by simp [hf']) ?_)
        | (refine wp_if_pos (by simp [hf']) ?_; refine wpAny_bind ?_)
      rw [hsl]
      have sz1 : t2.place.size = es1.size := by rw [← T2.len, List.length_map, hl, hes]
      have two : (t.mask = 7 ∧ L.length = 4) ∨ (t.mask = 31 ∧ L.length = 18) ∨ (t.mask = 127 ∧ L.length = 76) := by
        rcases R.four with e | e | e | e <;> rw [e] at hf room
        · exact .inl ⟨e, by omega⟩
        · exact .inr (.inl ⟨e, by omega⟩)
        · exact .inr (.inr ⟨e, by omega⟩)
        · omega
      have go : ∀ M, SetTable.sizeAbove (SetTable.grown (L.length + 1)) - 1 = M → Good M → (M = 7 ∨ M = 31 ∨ M = 127 ∨ M = 511) → SetTable.sizeAbove (SetTable.grown (L.length + 1)) ≤ 512 → (L.length + 1) * 5 < M * 3 →
          wpAny (model P w) A (setRelay a (SetTable.grown (L.length + 1))) (fun _ s' => wpAny (model P w) A (pure true) Q E s') E { s with heap := h1 } := fun M g1 g2 gf g3 g4 =>
        laid_anew (s := { s with heap := h1 }) ho1 ⟨hex.1, hex.2.1, hex.2.2⟩ rfl hin sz1 T2.dm (by rw [hes, em, q4]; rcases two with ⟨e, e2⟩ | ⟨e, e2⟩ | ⟨e, e2⟩ <;> omega) tup1 ld1 (by rw [hl]; exact few) g1 g2 gf g3 (by rw [hl]; exact g4) fun h2 L2 es2 ep2 t3 sb2 R2 pm2 =>
          wpAny_pure (q h2 L2 es2 ep2 t3 (sb.trans sb2) R2 (pm2.trans pm))
      rcases two with ⟨_, e2⟩ | ⟨_, e2⟩ | ⟨_, e2⟩
      · exact go 31 (by rw [e2, size_20]) (good_of (.inr (.inl rfl))) (.inr (.inl rfl)) (by rw [e2, size_20]; decide) (by omega)
      · exact go 127 (by rw [e2, size_76]) (good_of (.inr (.inr rfl))) (.inr (.inr (.inl rfl))) (by rw [e2, size_76]; decide) (by omega)
      · exact go 511 (by rw [e2, size_308]) good511 (.inr (.inr (.inr rfl))) (by rw [e2, size_308]; exact Nat.le_refl _) (by omega)
    · have hf' : t2.tooFull = false := by rw [full]; exact decide_eq_false hf
      first
        | refine wp_if_neg (by simp [hf']) ?_
        | (refine wpAny_bind ?_; refine wp_if_neg (by simp [hf']) ?_; refine wpAny_pure ?_)
      exact wpAny_pure (q h1 L1 es1 (ep + 1) t2 sb ⟨⟨_, ho1, ⟨hex.1, hex.2.1, hex.2.2⟩, rfl⟩, hin, T2, tup1, ld1, by rw [hl, em, q4]; omega, by rw [em, q4]; exact R.four⟩ pm)
  have byv : ∀ y : Bool, TabB (if y = true then t1 else { t1 with plain := false }) ((L.take p ++ (x, k) :: L.drop p).map fun p => hashK P w p.2) := fun y => by
    cases y
    · exact ⟨q3.up, q3.dm, q3.len, q3.g, q3.leads⟩
    · exact q3
  have fin : ∀ y : Bool, wpAny (model P w) A (do
        storeSet a (SetTable.insertAt es p (hashK P w k, Value.ref x)) (if y = true then t1 else { t1 with plain := false })
        if !false && (if y = true then t1 else { t1 with plain := false }).tooFull then setRelay a (SetTable.grown (es.size + 1))
        return true) Q E s := fun y => rest _ (by cases y <;> rfl) (by cases y <;> rfl) (by cases y <;> rfl) (by cases y <;> rfl) (by cases y <;> rfl) (byv y)
  by_cases hp1 : t1.plain = true
  · first
      | exact wpAny_bind (wp_if_pos hp1 (byValue_tup hx fun y => fin y))
      | exact wp_if_pos hp1 (wpAny_bind (byValue_tup hx fun y => fin y))
  · first
      | exact wpAny_bind (wp_if_neg hp1 (wpAny_pure (fin true)))
      | exact wp_if_neg hp1 (wpAny_bind (wpAny_pure (fin true)))
      | exact wp_if_neg hp1 (fin true)
end
end VLKB

end

section
set_option Elab.async false
set_option linter.all false
set_option maxRecDepth 100000
namespace VLKB
open PySem PySem.Spec PyProof.Rows L2 VLK VLB
section
variable {P : Program} {w : World} {A : Around} {E : Value → Shared → Prop} {s : Shared}
theorem SetB.stays {h h' : Heap} {a : Addr} {L : List Rw} {es : Array (Int × Value)} {ep : Nat} {t : SetTable} (R : SetB P w h a L es ep t) (ha : ∀ o, h.get? a = some o → h'.get? a = some o) (ht : ∀ p ∈ L, TupK P w h' p.2 p.1) : SetB P w h' a L es ep t := by
  obtain ⟨o, ho, r⟩ := R.ob
  exact ⟨⟨o, ha o ho, r⟩, R.rows, R.tab, ht, R.led, R.room, R.four⟩
theorem SetB.empty {h : Heap} {a : Addr} (ho : h.get? a = some (newSet w)) : SetB P w h a [] #[] 0 (.fresh 0 0 (!w.params.followText "set-order")) where
  ob := ⟨_, ho, ⟨rfl, rfl, rfl⟩, rfl⟩
  rows := rfl
  tab := ⟨List.Pairwise.nil, rfl, rfl, good_of (.inl rfl), fun hj hi => (by simp at hi)⟩
  tup := fun _ hp => (nomatch hp)
  led := by
    show _ ∨ (!w.params.followText "set-order") = true
    cases w.params.followText "set-order"
    · exact .inr rfl
    · exact .inl rfl
  room := by
    show 0 * 5 < 7 * 3
    decide
  four := .inl rfl
theorem fill_loop {I : Addr} {fp wr : List Addr} {G : Array GenState → Array GenState → Prop} {n : Nat} {Pv : Nat → Value → Prop} {St : Nat → Shared → Prop} {R : Result → Shared → Prop}
    (W : WalksS P w A.in1 I fp wr G n Pv St) (S : Addr) (hSf : S ∉ fp) (ks : List Rw) (nd : (ks.map (·.2)).Nodup) (hn : n = ks.length) (few : ks.length < 300) (hval : ∀ i v, Pv i v → ∃ p, ks[i]? = some p ∧ v = .ref p.1)
    (h0 : Heap) (hk : ∀ p ∈ ks, TupK P w h0 p.2 p.1) (hS0 : h0.get? S = none) (hw0 : ∀ b ∈ wr, h0.get? b = none) (hu : A.in1.units < cLine) :
    ∀ (k i : Nat) (s : Shared), n - i = k → i ≤ n → St i s → (∀ b o, h0.get? b = some o → s.heap.get? b = some o) → (∃ L es ep t, SetB P w s.heap S L es ep t ∧ L.Perm (ks.take i)) →
      (∀ s' L es ep t, Moved (S :: wr) G s s' → SetB P w s'.heap S L es ep t → L.Perm ks → (∀ b o, h0.get? b = some o → s'.heap.get? b = some o) → R (.ok (.ret .none)) s') →
      codeAny (model P w) A (.builtin "set.update.loop" ⟨[.ref S, .ref I], []⟩) R s := by
  have hSw : S ∉ wr := fun h => hSf (W.sub _ h)
  have wide : ∀ b ∈ wr, b ∈ S :: wr := fun b hb => List.mem_cons_of_mem _ hb
  have old : ∀ {s s' : Shared}, Moved wr G s s' → (∀ b o, h0.get? b = some o → s.heap.get? b = some o) → ∀ b o, h0.get? b = some o → s'.heap.get? b = some o := fun hm hkp b o e =>
    hm.heap b o (fun hb => by rw [hw0 b hb] at e; cases e) (hkp b o e)
  intro k
  induction k with
  | zero =>
    intro i s hk' hi hst hkp ⟨L, es, ep, t, hS, pm⟩ hR
    obtain rfl : i = n := by omega
    refine codeAny_builtin F.entry_set_update_loop ?_
    rw [Around.under_plainId F.plain_set_update_loop _]
    show wpAny _ A.in1 (pyNext (.ref I) >>= _) _ _ s
    refine wpAny_bind (W.done s _ _ hst fun s' hm => ?_)
    show wpAny _ A.in1 (ret Value.none) _ _ s'
    have hkp' := old hm hkp
    rw [hn, List.take_length] at pm
    exact wpAny_pure (hR s' L es ep t (hm.mono wide) (hS.stays (fun o e => hm.heap S o hSw e) fun p hp => TupK.stays (hk p (pm.mem_iff.mp hp)) hkp') pm hkp')
  | succ k ih =>
    intro i s hk' hi hst hkp ⟨L, es, ep, t, hS, pm⟩ hR
    have hlt : i < n := by omega
    refine codeAny_builtin F.entry_set_update_loop ?_
    rw [Around.under_plainId F.plain_set_update_loop _]
    show wpAny _ A.in1 (pyNext (.ref I) >>= _) _ _ s
    refine wpAny_bind (W.item i s _ _ hlt hst fun v s' hP hst' hm => ?_)
    obtain ⟨p, hp, rfl⟩ := hval i v hP
    have hkp' := old hm hkp
    have inn : ∀ q ∈ L, q ∈ ks := fun q hq => List.mem_of_mem_take (pm.mem_iff.mp hq)
    have hS' : SetB P w s'.heap S L es ep t := hS.stays (fun o e => hm.heap S o hSw e) fun q hq => TupK.stays (hk q (inn q hq)) hkp'
    have hx : TupK P w s'.heap p.2 p.1 := TupK.stays (hk p (List.mem_of_getElem? hp)) hkp'
    have tk : ks.take (i + 1) = ks.take i ++ [p] := by
      rw [List.take_succ, hp]
      rfl
    have new : ∀ q ∈ L, q.2 ≠ p.2 := fun q hq e => by
      have h1 : (ks.take (i + 1)).map (·.2) = (ks.take i).map (·.2) ++ [p.2] := by rw [tk, List.map_append]; rfl
      have h2 : ((ks.take (i + 1)).map (·.2)).Nodup := by
        rw [List.map_take]
        exact (List.take_sublist _ _).nodup nd
      rw [h1] at h2
      exact (List.nodup_append.mp h2).2.2 q.2 (List.mem_map_of_mem (pm.mem_iff.mp hq)) p.2 (List.mem_singleton.mpr rfl) e
    have lL : L.length ≤ i := by
      rw [pm.length_eq, List.length_take]
      omega
    show wpAny _ A.in1 (holding [Value.ref p.1] (setAdd S (.ref p.1)) >>= _) _ _ s'
    refine wpAny_bind (wpAny_holding ?_)
    unfold setAdd
    refine wpAny_holding (wpAny_bind (wpAny_pyHash_tuple hu hx ?_))
    refine add_new (s := { s' with toks := s'.toks + (p.2.length + 1) }) hS' hx new hu (by omega) fun h' L' es' ep' t' hsb hS2 pm2 => ?_
    have g' : L'.Perm (ks.take (i + 1)) := by
      rw [tk]
      refine pm2.trans ?_
      refine (List.Perm.cons _ pm).trans ?_
      exact (List.perm_append_singleton p (ks.take i)).symm
    have hkp2 : ∀ b o, h0.get? b = some o → h'.get? b = some o := fun b o e => (hsb.2 b (fun z => by rw [z, hS0] at e; cases e)).trans (hkp' b o e)
    refine wpAny_pure ⟨plainId_quiet F.plain_set_update_loop _, ih (i + 1) _ (by omega) hlt (W.frame _ s' _ _ hst' (Nat.le_add_right _ _) fun b hb o e => ?_) hkp2 ⟨L', es', ep', t', hS2, g'⟩ fun s'' L2 es2 ep2 t2 hm'' hS'' g'' hkp'' => ?_⟩
    · rw [hsb.2 b (fun h : b = S => hSf (by rw [← h]; exact hb))]
      exact e
    · refine hR s'' L2 es2 ep2 t2 (Moved.trans W.gtrans ((hm.mono wide).then_heap (Nat.le_add_right _ _) fun b o hb e => ?_) hm'') hS'' g'' hkp''
      rw [hsb.2 b (fun h : b = S => hb (by rw [h]; exact List.mem_cons_self))]
      exact e
end
end VLKB

end

section
set_option Elab.async false
set_option linter.all false
set_option maxRecDepth 100000
namespace VLKB
open PySem PySem.Spec PyProof.Rows L2 VLK VLB
section
variable {P : Program} {w : World} {A : Around} {E : Value → Shared → Prop} {s : Shared}
set_option maxHeartbeats 3200000 in
theorem call_set_new {l : Addr} {items : Array Value} (ks : List Rw) (nd : (ks.map (·.2)).Nodup) {Q : Value → Shared → Prop} (hh : A.handled = none) (hl : s.heap.IsList l items) (hit : items.toList = ks.map fun p => Value.ref p.1) (hk : ∀ p ∈ ks, TupK P w s.heap p.2 p.1) (few : ks.length < 300) (hu : A.units + 3 < cLine)
    (h : ∀ (h' : Heap) (tk : Nat) L es ep t, SetB P w h' s.heap.objs.size L es ep t → L.Perm ks → (∀ b o, s.heap.get? b = some o → h'.get? b = some o) → Q (.ref s.heap.objs.size) { s with heap := h', toks := tk }) :
    wpAny (model P w) A (call (.type "set") [.ref l]) Q E s := by
  have hisz : items.size = ks.length := by
    have q := congrArg List.length hit
    rw [Array.length_toList, List.length_map] at q
    exact q
  obtain ⟨c, tl, hmro⟩ := F.called_set.mro
  have hmade := F.called_set.made
  have hsub := F.called_set.sub
  refine wpAny_call (codeAny_of_tree ?_)
  show wpAny _ _ (callAny (.type "set") _) _ _ _
  refine wpAny_pure ⟨Code.quiet_builtin _ (by decide +kernel), codeAny_builtin F.entry_type_call ?_⟩
  rw [Around.under_plain (weight_type_call_type "set" [.ref l] []) rfl]
  have h1 := F.called_set.notType
  have h2 := F.called_set.canCreate
  have hct := F.typeCall_set_1 (.ref l)
  repeat (any_goals (first | assumption | wp_step))

  refine codeAny_mono (code_set_led1 (.ref l) (E := E) (Q₁ := fun obj s₁ => obj = .ref s.heap.objs.size ∧ s₁ = { s with heap := s.heap.push { cls := .type "set", dict := none, data := .set #[] 0 (.fresh 0 0 (!w.params.followText "set-order")) } }) ⟨rfl, rfl⟩) fun r s₁ hr => ?_
  cases r with
  | error e => exact hr
  | ok fl =>
    cases fl with
    | ret obj =>
      obtain ⟨rfl, rfl⟩ := hr
      have hS : (s.heap.push { cls := .type "set", dict := none, data := .set #[] 0 (.fresh 0 0 (!w.params.followText "set-order")) }).get? s.heap.objs.size = some { cls := .type "set", dict := none, data := .set #[] 0 (.fresh 0 0 (!w.params.followText "set-order")) } := Heap.get?_push_size _ rfl
      have hT : Shared.TypeIs { s with heap := s.heap.push { cls := .type "set", dict := none, data := .set #[] 0 (.fresh 0 0 (!w.params.followText "set-order")) } } (.ref s.heap.objs.size) "set" := ⟨_, hS, rfl⟩
      have hli := F.called_set.init.lookup
      have hbi := F.called_set.init.bind (.ref s.heap.objs.size)
      repeat (any_goals (first | assumption | wp_step))

      refine codeAny_mono (codeAny_call_builtin (R := wants (fun r s₂ => r = .none ∧ ∃ h' tk L es ep t, s₂ = { s with heap := h', toks := tk } ∧ SetB P w h' s.heap.objs.size L es ep t ∧ L.Perm ks ∧
          (∀ b o, s.heap.get? b = some o → h'.get? b = some o)) E) F.called_set.init.plain F.entry_set_init (check_set_init_1 hT ?_)) fun r₂ s₂ hr₂ => ?_
      · obtain ⟨ol, hol, hcl, nl, hdl⟩ := hl
        obtain ⟨ocls, odict, odata, oslots⟩ := ol
        simp only at hcl hdl
        subst hcl; subst hdl
        have hol' : (s.heap.push { cls := .type "set", dict := none, data := .set #[] 0 (.fresh 0 0 (!w.params.followText "set-order")) }).get? l = some { cls := .type "list", dict := odict, data := .seq items nl, slots := oslots } := Heap.get?_push_of_some _ hol
        have hsls := F.sub_list_set
        have hslf := F.sub_list_frozenset
        have hne : (Value.type "list" == Value.type "dict") = false := by decide
        have hl1 : (s.heap.push { cls := .type "set", dict := none, data := .set #[] 0 (.fresh 0 0 (!w.params.followText "set-order")) }).IsList l items := ⟨_, hol', rfl, nl, rfl⟩
        unfold Builtin.«set.__init__» noKeywords Builtin.Frozenset.updateFrom
        generalize hPI : pyIter = PI
        wp_walk
        subst hPI

        refine wpAny_pyIter_list hl1 ?_
        refine wpAny_bind (wpAny_runValue ?_)
        have hlS : l < s.heap.objs.size := Heap.lt_size hol
        have hh3 : A.in1.in1.in1.handled = none := by simp [hh]
        have hz1 : (s.heap.push { cls := .type "set", dict := none, data := .set #[] 0 (.fresh 0 0 (!w.params.followText "set-order")) }).objs.size = s.heap.objs.size + 1 := Heap.size_push ..
        have hneI : l ≠ (s.heap.push { cls := .type "set", dict := none, data := .set #[] 0 (.fresh 0 0 (!w.params.followText "set-order")) }).objs.size := by
          rw [Heap.size_push]; exact Nat.ne_of_lt (Nat.lt_succ_of_lt hlS)
        have hSf : s.heap.objs.size ∉ [(s.heap.push { cls := .type "set", dict := none, data := .set #[] 0 (.fresh 0 0 (!w.params.followText "set-order")) }).objs.size, l] := by
          rw [Heap.size_push]; simp only [List.mem_cons, List.mem_singleton, List.not_mem_nil, or_false, not_or]
          exact ⟨Nat.ne_of_lt (Nat.lt_succ_self _), Nat.ne_of_gt hlS⟩
        have hval : ∀ (i : Nat) (v : Value), items[i]? = some v → ∃ p, ks[i]? = some p ∧ v = .ref p.1 := fun i v hv => by
          have q : items.toList[i]? = some v := by rw [Array.getElem?_toList]; exact hv
          rw [hit, List.getElem?_map] at q
          cases hq : ks[i]? with
          | none => rw [hq] at q; cases q
          | some p =>
            rw [hq] at q
            exact ⟨p, rfl, (Option.some.inj q).symm⟩
        have beyond : ∀ b, s.heap.objs.size ≤ b → s.heap.get? b = none := fun b hb => by
          cases q : s.heap.get? b with
          | none => rfl
          | some o => exact absurd (Nat.lt_of_lt_of_le (Heap.lt_size q) hb) (Nat.lt_irrefl _)
        refine fill_loop ((Walks.list hh3 _ l hneI items).toS) s.heap.objs.size
          hSf ks nd hisz few hval s.heap hk (beyond _ (Nat.le_refl _)) (fun b hb => beyond b (by
            rw [List.mem_singleton.mp hb, Heap.size_push]
            exact Nat.le_succ _)) hu (items.size - 0) 0 _ (by omega) (Nat.zero_le _)
          ⟨⟨_, Heap.get?_push_size _ rfl, rfl, rfl⟩, (hl1.push _)⟩ (fun b o e => Heap.get?_push_of_some _ (Heap.get?_push_of_some _ e)) ?hS0 ?hR
        case hS0 =>
          have hget : ((s.heap.push { cls := .type "set", dict := none, data := .set #[] 0 (.fresh 0 0 (!w.params.followText "set-order")) }).push { cls := .type "list_iterator", data := .fields #[.ref l, .int 0 0] }).get? s.heap.objs.size
              = some { cls := .type "set", dict := none, data := .set #[] 0 (.fresh 0 0 (!w.params.followText "set-order")) } := Heap.get?_push_of_some _ hS
          exact ⟨[], #[], 0, _, SetB.empty hget, by rw [List.take_zero]⟩
        case hR =>
          intro s' L es ep t hm hS' g' hkp
          obtain ⟨h', g2, d', tk', os'⟩ := s'
          have eg : g2 = s.gens := hm.gens
          have ed : d' = s.drawn := hm.drawn
          have eo : os' = s.os := hm.os
          subst eg; subst ed; subst eo
          show wpAny _ _ _ _ _ _
          refine wpAny_pure ?_
          show wpAny _ _ (ret Value.none) _ _ _
          exact wpAny_pure ⟨rfl, h', tk', L, es, ep, t, rfl, hS', g', hkp⟩

      · cases r₂ with
        | error e => exact hr₂
        | ok fl₂ =>
          cases fl₂ with
          | ret r =>
            obtain ⟨rfl, h', tk, L, es, ep, t, rfl, hS', g', hk'⟩ := hr₂
            repeat (any_goals (first | assumption | wp_step))
            exact h _ _ _ _ _ _ hS' g' hk'
          | _ => exact hr₂.elim
    | _ => exact hr.elim
end
end VLKB

end

section
set_option Elab.async false
set_option linter.all false
set_option maxRecDepth 100000
namespace VLKB
open PySem PySem.Spec PyProof.Rows L2 VLK VLB
section
variable {X : Cx}
noncomputable def tLenSetB (K : PySem.W.Frag) (ta : TE) : TE := fun σ H Q => ta σ H fun x H1 => ∃ (l : Addr) (ks : List Rw), x = V.ref l ∧ SqL K H1 l (ks.map fun p => V.ref p.1) ∧ (∀ p ∈ ks, SqT K H1 p.1 (p.2.map kV)) ∧ (ks.map (·.2)).Nodup ∧ ks.length < 300 ∧ Q (.int ks.length) H1
theorem pe_lenSetB {a : Expr} {ta : TE} {p p2 q pos : Pos} (hc : X.calm = true) (hu : X.A.units + 64 < cLine) (hg : Gl X "len") (hm : X.mg "len" = none) (hg2 : Gl X "set") (hm2 : X.mg "set" = none) (ha : PE X a ta)
    (na : starEach [a] X.env = (false, eval a X.env) :: starEach [] X.env := by rfl) : PE X (.Call (.Name "len" p) [.Call (.Name "set" p2) [a] [] q] [] pos) (tLenSetB X.K ta) := by
  refine ⟨fun pins s σ H Q I h => ?_⟩
  refine Call_ (ld_blt I hg hm PySem.boot_len ?_)
  refine PyProof.Rows.callWith_builtin1 (PyProof.Rows.args_cons ?_ rfl) rfl rfl
  refine Call_ (ld_blt I hg2 hm2 PyProof.Rows.boot_set ?_)
  refine PyProof.Rows.callWith_type1 (PyProof.Rows.args_cons (thn (ha.run pins s σ H _ I h) fun v s1 ⟨x, H1, I1, r1, q1⟩ => PyProof.Rows.args_nil ?_) na) na rfl
  obtain ⟨l, ks, rfl, hq, ht, nd, few, q1⟩ := q1
  cases r1
  obtain ⟨its, r, pl, hz⟩ := I1.list hq
  refine call_set_new (P := X.prog) (w := X.w) ks nd (I1.ok.hd hc) pl.isList (by simpa using refs_rows r) (fun p hp => inv_tup I1 (ht p hp)) few (by omega) fun h' tk L es ep t R pm hk => ?_
  refine PyProof.Rows.args_nil ?_
  have I2 : Inv X pins σ H1 { s1 with heap := h', toks := tk } := I1.kept fun b o e => hk b o e
  obtain ⟨o, ho, hex, hd⟩ := R.ob
  have hn : es.size = ks.length := by rw [← Array.length_toList, R.rows, List.length_map, pm.length_eq]
  refine call_len_set ho hex hd (fits_of R.tab.dm (by rw [← R.tab.len, List.length_map, hn, pm.length_eq]) (by have := R.room; rw [hn, ← pm.length_eq]; omega)) (by rw [hn]; omega) ⟨.int ks.length, H1, I2.tok _, ⟨_, by rw [hn]⟩, q1⟩
end
end VLKB
namespace VL
open PySem PySem.Spec PyProof.Rows L2
section
variable {X : Cx} {T : List Nat} {W : WV} {K : Fg}
noncomputable def cLenSetB (f : M Rv) : M Rv := bnd f fun x => fun ρ => match derS ρ x with
  | some (.list ds) => (match rowsK ds with
    | some ks => if ks.Nodup ∧ ks.length < 300 then some (.ok (.d (.int (ks.length : Nat))) ρ) else none
    | none => none)
  | _ => none
theorem ve_lenSetB {e : Expr} {fa : M Rv} {p p2 pos q : Pos} (hc : X.calm = true) (hu : X.A.units + 64 < cLine) (hg : Gl X "len") (hm : X.mg "len" = none) (hg2 : Gl X "set") (hm2 : X.mg "set" = none) (ha : VE X T W e fa)
    (na : starEach [e] X.env = (false, eval e X.env) :: starEach [] X.env := by rfl) : VE X T W (.Call (.Name "len" p) [.Call (.Name "set" p2) [e] [] q] [] pos) (cLenSetB fa) :=
  pe_imp (VLKB.pe_lenSetB hc hu hg hm hg2 hm2 ha na) fun σ H Q ⟨F, ρ, fp, o, E, q, P⟩ => by
    refine tv_bnd E q P (fun i hi => hi) fun r ρ1 v H1 F1 fp1 s1 r1 e1 P1 => ?_
    split at e1
    · rename_i ds hd
      split at e1
      · rename_i ks hk
        split at e1
        · rename_i hl
          cases ok_inj e1
          obtain ⟨a, vs, rfl, h1, h2⟩ := (derS_ok s1.env r1 hd).list s1.env.sub
          obtain ⟨rs, rfl, rfl, hr⟩ := rows_vs s1.env.sub h2 hk
          refine ⟨a, rs, rfl, .inl h1, hr, hl.1, by have := hl.2; rwa [List.length_map] at this, ?_⟩
          exact P1 _ H1 F1 fp1 (.refl s1.env) (by rw [List.length_map]; exact .int _)
        · cases e1
      · cases e1
    · cases e1
end
end VL

end

section
set_option Elab.async false
set_option linter.all false
set_option maxRecDepth 100000
set_option maxHeartbeats 1000000
namespace VL
open PySem PySem.Spec PyProof.Rows L2
mutual
noncomputable def tlT : Tr → Bool
  | .dat _ => true
  | .lst ts => tlTs ts
  | .tup ts => tlTs ts
  | _ => false
noncomputable def tlTs : List Tr → Bool
  | [] => true
  | t :: ts => tlT t && tlTs ts
end
noncomputable def plainT : Tr → Bool
  | .dat .none => true
  | .dat (.bool _) => true
  | .dat (.int _) => true
  | .dat (.str _) => true
  | _ => false
section
variable {K : Fg} {F H : Hp}
theorem tr_pl {F' H' : Hp} {v : V} {t : Tr} {A : List Addr} (h : TrOk K F H v t A) (c : plainT t = true) : TrOk K F' H v t A := by
  cases h with
  | @dat v d q =>
    cases q with
    | non => exact .dat .non
    | bl b => exact .dat (.bl b)
    | int i => exact .dat (.int i)
    | str x => exact .dat (.str x)
    | _ => cases c
  | _ => cases c
mutual
theorem tl_at : ∀ {v : V} {t : Tr} {A : List Addr}, TrOk K F H v t A → tlT t = true → ∀ b ∈ A, (∃ xs, H b = some (.lst xs)) ∨ ∃ xs, H b = some (.tup xs)
  | _, _, _, .dat _, _, b, hb => nomatch hb
  | _, _, _, @TrOk.tup _ _ _ a vs ts A e f r, c, b, hb => by
    rcases List.mem_cons.mp hb with z | z
    · rw [z]; exact .inr ⟨_, e⟩
    · exact tls_at r (by simpa [tlT] using c) b z
  | _, _, _, @TrOk.lst _ _ _ a vs ts A e f r, c, b, hb => by
    rcases List.mem_cons.mp hb with z | z
    · rw [z]; exact .inl ⟨_, e⟩
    · exact tls_at r (by simpa [tlT] using c) b z
  | _, _, _, .dk e f k r, c, _, _ => by simp [tlT] at c
  | _, _, _, .dt e f k r, c, _, _ => by simp [tlT] at c
  | _, _, _, .ins e f kc k r, c, _, _ => by simp [tlT] at c
  | _, _, _, .fk e f r, c, _, _ => by simp [tlT] at c
  | _, _, _, .ft e f r, c, _, _ => by simp [tlT] at c
  | _, _, _, .raw, c, _, _ => by simp [tlT] at c
  | _, _, _, .sd _ _, c, _, _ => by simp [tlT] at c
  | _, _, _, .hole, c, _, _ => by simp [tlT] at c
theorem tls_at : ∀ {vs : List V} {ts : List Tr} {A : List Addr}, TrsOk K F H vs ts A → tlTs ts = true → ∀ b ∈ A, (∃ xs, H b = some (.lst xs)) ∨ ∃ xs, H b = some (.tup xs)
  | _, _, _, .nil, _, _, hb => nomatch hb
  | _, _, _, @TrsOk.cons _ _ _ v vs t ts A B q r, c, b, hb => by
    have c' : tlT t = true ∧ tlTs ts = true := by simpa [tlTs] using c
    rcases List.mem_append.mp hb with z | z
    · exact tl_at q c'.1 b z
    · exact tls_at r c'.2 b z
end
end
noncomputable def lendT (ρ : Rho) : List LA → Option (List PyData)
  | [] => some []
  | .d x :: ls => (lendT ρ ls).map (x :: ·)
  | .p r :: ls => match treeAt ρ r with
    | some t => if tlT t then (match t.toD with
      | some d => (lendT ρ ls).map (d :: ·)
      | none => none) else none
    | _ => none
noncomputable def callLT (m : Nat) (f : Fn) (ls : List LA) : M Tr := fun ρ => match lendT ρ ls with
  | some ds => if ds.length = m then (match f (ds.map .val) with
    | some (.ret t, _) => if plainT t then some (.ok t ρ) else none
    | _ => none) else none
  | none => none
noncomputable def nLendT (m : Nat) (f : Fn) (fs : M (List LA)) : M Tr := bnd fs (callLT m f)
section
variable {K : Fg}
theorem lendT_ok {F H : Hp} {σ : Sg} {ρ : Rho} {fp : FP} (E : EnvOk K F H σ ρ fp) : ∀ {vs : List V} {ls : List LA} {ds : List PyData}, LAsOk K F H σ ρ vs ls → lendT ρ ls = some ds →
    ∃ L : List Addr, (∀ b ∈ L, Owns fp b ∧ ((∃ xs, H b = some (.lst xs)) ∨ ∃ xs, H b = some (.tup xs))) ∧ ∀ G, Same F G → (∀ b ∈ L, G b = H b) → DqAll K G vs ds
  | _, _, _, .nil, e => by simp only [lendT] at e; cases e; exact ⟨[], (fun b h => nomatch h), fun _ _ _ => .nil⟩
  | _, .d x :: ls, _, .cons h t, e => by
    simp only [lendT] at e
    obtain ⟨ds', e1, rfl⟩ := map_some e
    obtain ⟨L, h1, h2⟩ := lendT_ok E t e1
    exact ⟨L, h1, fun G s g => .cons (dq_mono s _ _ h) (h2 G s g)⟩
  | _, .p r :: ls, _, .cons h t, e => by
    simp only [lendT] at e
    split at e
    · rename_i t0 hts
      split at e
      · rename_i hc
        split at e
        · rename_i d0 hd
          obtain ⟨ds', e1, rfl⟩ := map_some e
          obtain ⟨L, h1, h2⟩ := lendT_ok E t e1
          obtain ⟨B, qB, hB⟩ := place_get E h hts
          refine ⟨B ++ L, fun b hb => ?_, fun G s g => .cons (TrOk.dp s qB (fun b hb => g b (List.mem_append_left _ hb)) hd) (h2 G s fun b hb => g b (List.mem_append_right _ hb))⟩
          rcases List.mem_append.mp hb with z | z
          · exact ⟨⟨r.1, hB b z⟩, tl_at qB hc b z⟩
          · exact h1 b z
        · cases e
      · cases e
    · cases e
theorem lendT_len {F H : Hp} {σ : Sg} {ρ : Rho} : ∀ {vs : List V} {ls : List LA} {ds : List PyData}, LAsOk K F H σ ρ vs ls → lendT ρ ls = some ds → vs.length = ds.length
  | _, _, _, .nil, e => by simp only [lendT] at e; cases e; rfl
  | _, .d x :: ls, _, .cons h t, e => by
    simp only [lendT] at e
    obtain ⟨ds', e1, rfl⟩ := map_some e
    simp [lendT_len t e1]
  | _, .p r :: ls, _, .cons h t, e => by
    simp only [lendT] at e
    split at e
    · split at e
      · split at e
        · obtain ⟨ds', e1, rfl⟩ := map_some e
          simp [lendT_len t e1]
        · cases e
      · cases e
    · cases e
end
section
variable {X : Cx} {W : WV} {k m : Nat} {f : Addr} {fd : FuncData} {ps : List Str} {F : Fn} {x : Str} {p pos : Pos} {e : Expr} {es : List Expr} {fs : M (List LA)}
theorem vn_lendT (G : FnOk X.prog X.w X.K X.mg X.base CX0 k f fd ps (spV X.K Wx0 m F)) (hr : Room k X.A) (hg : Gl X x) (hm : X.mg x = some (.ref f)) (hk : PySem.W.keepIn X.K (.ref f) = true) (hb : Binds X.K fd ps [])
    (ha : VLs X W (e :: es) fs) (hdb : (x == ("__debug__" : Str)) = false := by decide) (he : starEach (e :: es) X.env = (false, eval e X.env) :: starEach es X.env := by rfl) (hpl : (backTo pos (starEach es X.env)).any (·.1) = false := by rfl) :
    VN X [] W (.Call (.Name x p) (e :: es) [] pos) (nLendT m F fs) :=
  pe_imp (pe_call G hr hg hm hk hb .nil pass0 ha hdb he hpl) fun σ H Q ⟨F0, ρ, fp, o, E, q, P⟩ => by
    refine tv_bnd (T := []) E q P (fun i hi => hi) fun ls ρ1 vs H1 F1 fp1 s1 r1 e1 P1 => ?_
    rw [List.append_nil]
    unfold callLT at e1
    split at e1
    · rename_i ds hds
      split at e1
      · rename_i hlen
        split at e1
        · rename_i t outs hf
          split at e1
          · rename_i hno
            cases ok_inj e1
            have E1 := s1.env
            obtain ⟨L, hL, hD⟩ := lendT_ok E1 r1 hds
            have hl := lendT_len r1 hds
            let G1 := frz F1 H1 L
            have LF : ∀ b ∈ L, F1 b = none := fun b hb => (E1.there (hL b hb).1).2
            have sG : Same F1 G1 := frz_same LF
            have sH : Same G1 H1 := frz_sub E1.sub
            have gL : ∀ b ∈ L, G1 b = H1 b := fun b hb => if_pos hb
            have dA := hD G1 sG gL
            have gN : ∀ b, G1 b = none → F1 b = none := fun b h => by
              cases z : F1 b with
              | none => rfl
              | some u => rw [sG b u z] at h; cases h
            let fpA : FP := fun _ => []
            have nA : ∀ b, ¬ Owns fpA b := fun b ⟨i, h⟩ => nomatch h
            have EA : EnvOk X.K G1 H1 (vs.map some) (ds.map .val) fpA := by
              refine ⟨sH, by simp [hl], fun i s h => ?_, fun _ _ => rfl, fun _ => List.nodup_nil, (fun i j b h => nomatch h), E1.tb.frz LF (fun b hb ps z => by rcases (hL b hb).2 with ⟨xs, w⟩ | ⟨xs, w⟩ <;> rw [w] at z <;> cases z), fun j i p t h _ => ?_⟩
              · rw [List.getElem?_map] at h
                obtain ⟨d, hdi, rfl⟩ := Option.map_eq_some_iff.mp h
                obtain ⟨v, hv, dv⟩ := dqAll_get dA hdi
                exact ⟨v, sg_map hv, dv⟩
              · exfalso
                rw [List.getElem?_map] at h
                obtain ⟨d, _, z⟩ := Option.map_eq_some_iff.mp h
                cases z
            refine ⟨by omega, G1, _, fpA, _, outs, EA, hf, fun v A H' F' fp' st n => ?_⟩
            have F'L : ∀ b ∈ L, (∃ xs, F' b = some (.lst xs)) ∨ ∃ xs, F' b = some (.tup xs) := fun b hb => by
              rcases (hL b hb).2 with ⟨xs, w⟩ | ⟨xs, w⟩
              · exact .inl ⟨xs, st.fr b _ ((gL b hb).trans w)⟩
              · exact .inr ⟨xs, st.fr b _ ((gL b hb).trans w)⟩
            have sC : Same F1 (cutF F' L) := fun b u h => by
              rw [cutF_out fun z => by rw [LF b z] at h; cases h]
              exact st.fr b u (sG b u h)
            have sCH : Same (cutF F' L) H' := fun b u h => by
              unfold cutF at h
              split at h
              · cases h
              · exact st.env.sub b u h
            have kp : ∀ b, Owns fp1 b → H' b = H1 b ∧ cutF F' L b = none := fun b hb => by
              have th := E1.there hb
              refine ⟨?_, ?_⟩
              · cases h : H1 b with
                | none => exact absurd h th.1
                | some u => exact st.frame b u h (nA b) fun ps z => E1.ntb hb ps (z ▸ h)
              · by_cases z : b ∈ L
                · exact cutF_in z
                · rw [cutF_out z]
                  cases h : F' b with
                  | none => rfl
                  | some u =>
                    have g0 : G1 b = none := by
                      show (if b ∈ L then H1 b else F1 b) = none
                      rw [if_neg z]; exact th.2
                    exact ((st.nf b g0 (by rw [h]; exact fun z => nomatch z)).elim th.1 fun z => z.elim (nA b) (E1.nkt hb)).elim
            have nfC : ∀ b, F1 b = none → cutF F' L b ≠ none → H1 b = none ∨ KT H1 b := fun b h h' => by
              by_cases z : b ∈ L
              · exact absurd (cutF_in z) h'
              · rw [cutF_out z] at h'
                have g0 : G1 b = none := by
                  show (if b ∈ L then H1 b else F1 b) = none
                  rw [if_neg z]; exact h
                exact (st.nf b g0 h').imp_right fun w => w.elim (fun y => (nA b y).elim) id
            have tbC : TbOk X.K (cutF F' L) H' := fun c P hP => by
              obtain ⟨t1, ps, t2, t3, t4⟩ := st.env.tb c P hP
              refine ⟨?_, ps, t2, t3, fun pos cv z => ?_⟩
              · unfold cutF; split
                · rfl
                · exact t1
              · obtain ⟨c', y1, y2⟩ := t4 pos cv z
                refine ⟨c', y1, ?_⟩
                rw [cutF_out fun z => by rcases F'L c' z with ⟨xs, w⟩ | ⟨xs, w⟩ <;> rw [w] at y2 <;> cases y2]
                exact y2
            have g2 : Grow2 X.K F1 H1 (cutF F' L) H' := ⟨fun b o h nt => st.frame b o h (nA b) nt, st.dom, sC, sCH, nfC, tbC⟩
            refine P1 v H' (cutF F' L) fp1 (g2.step E1) ⟨A, tr_pl (F := F') (H := H') (F' := cutF F' L) (H' := H') n.ok hno, n.nd, fun b hb => ?_, fun b hb ho => ?_⟩
            · rcases n.new b hb with z | z
              · exact .inl z
              · exact (nA b z).elim
            · rcases n.new b hb with z | z
              · exact (E1.there ho).1 z
              · exact nA b z
          · cases e1
        · cases e1
      · cases e1
    · cases e1
end
end VL

end

section
set_option Elab.async false
set_option linter.all false
set_option maxRecDepth 100000
set_option maxHeartbeats 1000000
namespace VL
open PySem PySem.Spec PyProof.Rows L2
section
variable {X : Cx}
theorem refs_vals : ∀ qs : List (Addr × List Key), Vals (qs.map fun z => V.ref z.1) (qs.map fun z => Value.ref z.1)
  | [] => .nil
  | _ :: qs => .cons rfl (refs_vals qs)
theorem call_listDT (hcalm : X.calm = true) : CallR X (.type "list") (fun xs H Q => ∃ (a : Addr) (kvs : List (List Key × V)), xs = [.ref a] ∧ H a = some (.dT kvs) ∧
    ∀ (qs : List (Addr × List Key)) p, qs.map (·.2) = kvs.map (·.1) → (∀ z ∈ qs, H z.1 = some (.tup (z.2.map kV))) → H p = none → Q (.ref p) (upd H p (.lst (qs.map fun z => V.ref z.1)))) := by
  intro pins s σ H xs us Q I r q
  obtain ⟨a, kvs, ex, hd, q⟩ := q
  subst ex
  obtain ⟨u, eu, rx⟩ := vals1 r
  subst eu
  cases rx
  obtain ⟨z, lo, xs, rel, o, es, ep, h1, h2, h3, h4, h5⟩ := (show ObjOk X.prog X.w H s.heap a (.dT kvs) from I.hok a _ hd)
  have hz : es.size = xs.length := by rw [← Array.length_toList, h4, List.length_map]
  have hl : kvs.length = xs.length := Paired.length rel
  have facts : ∀ {l : List (List Key × V)} {m : List (List Key × Addr × Value)}, L2.KT H l m → (m.map fun x => (x.2.1, x.1)).map (·.2) = l.map (·.1) ∧ ∀ z ∈ m.map (fun x => (x.2.1, x.1)), H z.1 = some (.tup (z.2.map kV)) := by
    intro l m t
    induction t with
    | nil => exact ⟨rfl, fun _ h => nomatch h⟩
    | @cons p q ps qs e t ih =>
      refine ⟨by rw [List.map_cons, List.map_cons, List.map_cons, ih.1, e.1], fun z hz => ?_⟩
      rcases List.mem_cons.mp hz with y | y
      · rw [y]
        show H q.2.1 = some (.tup (q.1.map kV))
        rw [← e.1]
        exact e.2.1
      · exact ih.2 z y
  obtain ⟨f1, f2⟩ := facts rel
  refine PySem.W.kdl_call (PySem.KdlSrc.rawDict (es := es) (ep := ep) lo) (I.ok.hd hcalm) ⟨o, h1, h2, h3⟩ (by omega) fun h' tk acc c' hk hD hacc => ?_
  have ea : acc.toList = (xs.map fun x => (x.2.1, x.1)).map fun z => Value.ref z.1 := by
    refine List.ext_getElem (by rw [Array.length_toList, hacc.1, hz, List.length_map, List.length_map]) fun j g1 g2 => ?_
    obtain ⟨hi, e⟩ := hacc.2 j acc.toList[j] (by rw [← Array.getElem?_toList]; exact List.getElem?_eq_getElem g1)
    have ex : es.toList[j]? = some es[j] := by rw [Array.getElem?_toList]; exact Array.getElem?_eq_getElem hi
    rw [h4, List.getElem?_map] at ex
    obtain ⟨x, hx, ee⟩ := Option.map_eq_some_iff.mp ex
    rw [e, ← ee]
    rw [List.getElem_map, List.getElem_map, (List.getElem?_eq_some_iff.mp hx).2]
    rfl
  have hv : Vals ((xs.map fun x => (x.2.1, x.1)).map fun z => V.ref z.1) acc.toList := by
    rw [ea]
    exact refs_vals _
  exact ⟨.ref s.heap.objs.size, upd H s.heap.objs.size (.lst ((xs.map fun x => (x.2.1, x.1)).map fun z => V.ref z.1)), I.laid (t' := tk) hk (Nat.le_refl _)
    (show ObjOk X.prog X.w _ _ _ (.lst _) from ⟨by rw [List.length_map, List.length_map]; omega, acc.toList, c', hv, by rw [Array.toArray_toList]; exact hD⟩), rfl, q (xs.map fun x => (x.2.1, x.1)) _ f1 f2 (I.hok.fresh (Nat.le_refl _))⟩
end
section
variable {K : Fg}
theorem Grow2.then {F H F1 H1 F2 H2 : Hp} (a : Grow2 K F H F1 H1) (b : Grow2 K F1 H1 F2 H2) (hh : H1 = H) : Grow2 K F H F2 H2 := by
  subst hh
  exact ⟨b.h, b.d, fun x o e => b.f x o (a.f x o e), b.s, fun x h h' => by
    cases e : F1 x with
    | none => exact b.n x e h'
    | some o => exact a.n x h (by rw [e]; exact nofun), b.t⟩
theorem grow_keys {H : Hp} : ∀ (qs : List (Addr × List Key)) (F : Hp), Same F H → TbOk K F H → (∀ z ∈ qs, H z.1 = some (.tup (z.2.map kV))) → ∃ F2, Grow2 K F H F2 H ∧ DqAll K F2 (qs.map fun z => V.ref z.1) (qs.map fun z => keyTD z.2)
  | [], F, s, t, _ => ⟨F, Grow2.refl s t, .nil⟩
  | z :: qs, F, s, t, h => by
    have g := grow_key2 (K := K) s t (h z List.mem_cons_self)
    obtain ⟨F2, g2, d⟩ := grow_keys qs _ g.s g.t fun y hy => h y (List.mem_cons_of_mem _ hy)
    refine ⟨F2, g.then g2 rfl, .cons ?_ d⟩
    exact dq_mono g2.f _ _ (.tups (.inl upd_same) dqAll_keys)
end
section
variable {X : Cx} {T T1 T2 T3 : List Nat} {W : WV} {K : Fg} {fp1 : M (Nat × List Nat)} {o e k : Expr} {pos p apos cpos : Pos}
noncomputable def nKeysT (f : M (Nat × List Nat)) : M Tr := bnd f fun r => fun ρ => match treeAt ρ r with
  | some (.dt ts) => some (.ok (.lst (ts.map fun kv => .dat (keyTD kv.1))) ρ)
  | _ => none
theorem vn_keysT (hc : X.calm = true) (hg : Gl X "list") (hm : X.mg "list" = none) (ha : VP X T W e fp1) (he : starEach [e] X.env = (false, eval e X.env) :: starEach [] X.env := by rfl) (hpl : (backTo pos (starEach [] X.env)).any (·.1) = false := by rfl) : VN X T W (.Call (.Name "list" p) [e] [] pos) (nKeysT fp1) :=
  pe_imp (pe_callTy (call_listDT hc) hg hm (by decide +kernel) (pa_cons ha pa_nil he) (by decide) (by decide) he hpl) fun σ H Q ⟨F, ρ, fp, o, E, q, P⟩ => by
    refine tv_bnd E q P (fun i hi => hi) fun r ρ1 v H1 F1 fq1 s1 r1 e1 P1 => ?_
    split at e1
    · rename_i ts ht
      cases ok_inj e1
      obtain ⟨B, qB, _⟩ := place_get s1.env r1 ht
      cases qB with
      | @dt a vs _ _ h1 h2 h3 h4 =>
        refine ⟨a, vs, rfl, h1, fun qs y k1 k2 ny => ?_⟩
        obtain ⟨F2, g, d⟩ := grow_keys (K := X.K) qs F1 s1.env.sub s1.env.tb k2
        have s1' := s1.trans (g.step s1.env)
        have ek : (ts.map fun kv => keyTD kv.1) = qs.map fun z => keyTD z.2 := by
          have e2 : qs.map (·.2) = ts.map (·.1) := k1.trans h3
          have := congrArg (List.map keyTD) e2
          rw [List.map_map, List.map_map] at this
          exact this.symm
        have eT : (ts.map fun kv => Tr.dat (keyTD kv.1)) = (qs.map fun z => keyTD z.2).map .dat := by
          rw [← ek, List.map_map]
          rfl
        obtain ⟨s2, n2⟩ := new_one (ob := .lst (qs.map fun z => V.ref z.1)) (t := .lst ((qs.map fun z => keyTD z.2).map .dat)) s1' ny (.lst upd_same (s1'.env.sub.free ny) (trs_dat d))
        rw [eT] at P
        exact P _ _ F2 fq1 s2 n2
    · cases e1
end
end VL

end

section
set_option Elab.async false
set_option linter.all false
set_option maxRecDepth 100000
namespace K05
open PySem PySem.Spec PyProof.Rows L2 VL SM SN SXA
noncomputable def b__law_right_0 : MS := (sSeq (sIf (cOr (cNot (cTest (cIsi .tuple (cVar 8)))) (cOr (cCmp neD (cCall lenD (aCons (cVar 8) aNil)) (cD (.int 2))) (cCmp notInD (cBin subD (cVar 8) (cD (.int 1))) (cFrz (nCall [] 1 SM.F__law_likes (aCons (cBin subD (cVar 8) (cD (.int 0))) aNil)))))) (sRet (nDat (cD (.bool false)))) sNil)
  (sExt [] (pVar 7) (cCall listD (aCons (cVar 8) aNil))))
noncomputable def b__law_right_1 : MS := (sIf (cCmp neD (cFrz (nComp (iSeq (cFrz (nCall [5] 1 SM.F__law_likes (aCons (cVar 5) aNil)))) [6] (gN 6) (cCmp inD (cVar 6) (cVar 3)) (cVar 6))) (cFrz (nLst aNil))) (sRet (nDat (cD (.bool false)))) sNil)
noncomputable def g__law_right : MS := (sSeq (sIf (cOr (cNot (cTest (cIsi .tuple (cVar 1)))) (cCmp neD (cFrz (nComp (iSeq (cVar 1)) [2] (gN 2) tYesM (cIsi .list (cVar 2)))) (cFrz (nLst (aCons (cD (.bool true)) (aCons (cD (.bool true)) aNil)))))) (sRet (nDat (cD (.bool false)))) sNil)
  (sSeq (sAsg (gT 2 (gsC (gN 3) (gsC (gN 4) gsN))) (cVar 1))
  (sSeq (sIf (cCmp neD (cVar 3) (cFrz (nComp (iSeq (cVar 0)) [5] (gN 5) (cCmp inD (cVar 5) (cVar 3)) (cVar 5)))) (sRet (nDat (cD (.bool false)))) sNil)
  (sSeq (sFor (iSeq (cVar 3)) (gN 5) b__law_right_1)
  (sSeq (sSetN 7 (nLst aNil))
  (sSeq (sFor (iSeq (cVar 4)) (gN 8) b__law_right_0)
  (sSeq (sIf (cOr (cCmp neD (cFrz (nComp (iOwn 7) [5] (gN 5) (cCmp notInD (cVar 5) (cVar 0)) (cVar 5))) (cFrz (nLst aNil))) (cCmp ltD (cLenSetB (cVar 7)) (cCall lenD (aCons (cVar 7) aNil)))) (sRet (nDat (cD (.bool false)))) sNil)
  (sRet (nDat (cOf (cCmp eqD (cCall lenD (aCons (cVar 3) aNil)) (cBin subtD (cCall lenD (aCons (cVar 0) aNil)) (cCall lenD (aCons (cVar 4) aNil))))))))))))))
noncomputable def F__law_right : Fn := runF 9 g__law_right
noncomputable def b__law_some_0 : MS := (sSeq (sSet 6 (cFrz (nCall [0] 1 fSign (aCons (cVar 0) aNil))))
  (sSeq (sIf (cAnd (cCmp gtD (cVar 3) (cD (.int 0))) (cCmp gtD (cFrz (nCall [0] 2 fTake (aCons (cVar 0) (aCons (cD (.int 3)) aNil)))) (cD (.int 0)))) (sSeq (sSet 7 (cFrz (nCall [4] 1 SM.F__law_likes (aCons (cVar 4) aNil))))
  (sSet 6 (cBin subD (cVar 7) (cFrz (nCall [0] 2 fTake (aCons (cVar 0) (aCons (cCall lenD (aCons (cVar 7) aNil)) aNil))))))) sNil)
  (sSeq (sDPut [] (cD (.bool true)) (pVar 2) (cVar 6))
  (sSet 4 (cVar 6)))))
noncomputable def g__law_some : MS := (sSeq (sSet 1 (cBin subD (cFrz (nLst (aCons (cFrz (nCall [0] 2 fTake (aCons (cVar 0) (aCons (cD (.int 8)) aNil)))) (aCons (cFrz (nCall [0] 2 fTake (aCons (cVar 0) (aCons (cD (.int 61)) aNil)))) (aCons (cFrz (nCall [0] 2 fTake (aCons (cVar 0) (aCons (cD (.int 201)) aNil)))) aNil))))) (cCall min2D (aCons (cD (.int 2)) (aCons (cBin fdivD (cFrz (nCall [0] 2 fTake (aCons (cVar 0) (aCons (cD (.int 5)) aNil)))) (cD (.int 2))) aNil)))))
  (sSeq (sSetN 2 (nNew (.dt [])))
  (sSeq (sSet 3 (cFrz (nCall [0] 2 fTake (aCons (cVar 0) (aCons (cD (.int 3)) aNil)))))
  (sSeq (sSet 4 (cFrz (nCall [0] 1 fSign (aCons (cVar 0) aNil))))
  (sSeq (sFor (iRange1 (aCons (cVar 1) aNil)) (gN 5) b__law_some_0)
  (sRet (nKeysT (pVar 2))))))))
noncomputable def F__law_some : Fn := runF 8 g__law_some
noncomputable def b_law_0 : MS := (sSeq (sSetN 2 (nCall [0, 1] 2 fBag (aCons (cVar 0) (aCons (cVar 1) aNil))))
  (sSeq (sSet 3 (cFrz (nCall [2] 1 F__law_some (aCons (cVar 2) aNil))))
  (sSeq (sSet 4 (cCall listD (aCons (cVar 3) aNil)))
  (sSeq (sSetN 5 (nCall [4] 1 SXA.F_most_apart (aCons (cVar 4) aNil)))
  (sSeq (sIf (cOr (cNot (cTest (cFrz (nLendT 2 F__law_right (lD (cVar 3) (lP (pVar 5) lNil)))))) (cCmp neD (cVar 4) (cVar 3))) (sRet (nDat (cD (.bool false)))) sNil)
  (sSeq (sSet 6 (cFrz (nCall [4] 1 SXA.F_most_apart (aCons (cVar 4) aNil))))
  (sSeq (sApp [] (pIx [] (pVar 5) (cD (.int 0))) (nDat (cD .none)))
  (sSeq (sApp [] (pIx [] (pVar 5) (cD (.int 1))) (nDat (cD .none)))
  (sIf (cOr (cNot (cTest (cFrz (nCall [3, 6] 2 F__law_right (aCons (cVar 3) (aCons (cVar 6) aNil)))))) (cCmp neD (cFrz (nCall [4] 1 SXA.F_most_apart (aCons (cVar 4) aNil))) (cVar 6))) (sRet (nDat (cD (.bool false)))) sNil)))))))))
noncomputable def g_law : MS := (sSeq (sFor (iRange1 (aCons (cBin addD (cD (.int 1)) (cCall min2D (aCons (cCall lenD (aCons (cVar 0) aNil)) (aCons (cD (.int 10)) aNil)))) aNil)) (gN 1) b_law_0)
  (sRet (nDat (cD (.bool true)))))
noncomputable def F_law : Fn := runF 7 g_law
end K05

end

section
set_option Elab.async false
set_option linter.all false
set_option maxRecDepth 100000
set_option maxHeartbeats 0
namespace K05
open PySem PySem.Spec PyProof.Rows L2 VL SM SN SXA
noncomputable def topS (i : Nat) : Stmt := PySem.Challenge.pw_palmhall_k05_signs_apart.main.body.getD i (.Pass ⟨0, 0, 0, 0⟩)
noncomputable abbrev st_other_part : Stmt := topS 2
noncomputable abbrev st_is_odd : Stmt := topS 6
noncomputable abbrev st_reached_from : Stmt := topS 8
noncomputable abbrev st__law_bag : Stmt := topS 12
noncomputable abbrev st__law_take : Stmt := topS 13
noncomputable abbrev st__law_likes : Stmt := topS 16
noncomputable abbrev st_alikes : Stmt := topS 3
noncomputable abbrev st__law_showing : Stmt := topS 15
noncomputable abbrev st__law_right : Stmt := topS 17
noncomputable abbrev st_look_alike : Stmt := topS 4
noncomputable abbrev st__law_sign : Stmt := topS 14
noncomputable abbrev st__law_some : Stmt := topS 11
noncomputable abbrev st_find_mate : Stmt := topS 7
noncomputable abbrev st_most_apart : Stmt := topS 9
noncomputable abbrev st_law : Stmt := topS 18
set_option genInjectivity false in
set_option genSizeOf false in
structure Ad where
  f_other_part : Addr
  d_other_part : FuncData
  f_is_odd : Addr
  d_is_odd : FuncData
  f_reached_from : Addr
  d_reached_from : FuncData
  f__law_bag : Addr
  d__law_bag : FuncData
  f__law_take : Addr
  d__law_take : FuncData
  f__law_likes : Addr
  d__law_likes : FuncData
  f_alikes : Addr
  d_alikes : FuncData
  f__law_showing : Addr
  d__law_showing : FuncData
  f__law_right : Addr
  d__law_right : FuncData
  f_look_alike : Addr
  d_look_alike : FuncData
  f__law_sign : Addr
  d__law_sign : FuncData
  f__law_some : Addr
  d__law_some : FuncData
  f_find_mate : Addr
  d_find_mate : FuncData
  f_most_apart : Addr
  d_most_apart : FuncData
  f_law : Addr
  d_law : FuncData
  t_OTHERS : Addr
structure All (K : Fg) (w : World) (mg : Str → Option Value) (a : Ad) : Prop where
  F_other_part : Fun K "other_part" "other_part" st_other_part a.f_other_part a.d_other_part
  m_other_part : mg "other_part" = some (.ref a.f_other_part)
  b_other_part : Binds K a.d_other_part ["part"] []
  F_is_odd : Fun K "is_odd" "is_odd" st_is_odd a.f_is_odd a.d_is_odd
  m_is_odd : mg "is_odd" = some (.ref a.f_is_odd)
  b_is_odd : Binds K a.d_is_odd ["sign"] []
  F_reached_from : Fun K "reached_from" "reached_from" st_reached_from a.f_reached_from a.d_reached_from
  m_reached_from : mg "reached_from" = some (.ref a.f_reached_from)
  b_reached_from : Binds K a.d_reached_from ["alone", "near", "mates"] []
  F__law_bag : Fun K "_law_bag" "_law_bag" st__law_bag a.f__law_bag a.d__law_bag
  m__law_bag : mg "_law_bag" = some (.ref a.f__law_bag)
  b__law_bag : Binds K a.d__law_bag ["script", "k"] []
  F__law_take : Fun K "_law_take" "_law_take" st__law_take a.f__law_take a.d__law_take
  m__law_take : mg "_law_take" = some (.ref a.f__law_take)
  b__law_take : Binds K a.d__law_take ["bag", "many"] []
  F__law_likes : Fun K "_law_likes" "_law_likes" st__law_likes a.f__law_likes a.d__law_likes
  m__law_likes : mg "_law_likes" = some (.ref a.f__law_likes)
  b__law_likes : Binds K a.d__law_likes ["thing"] []
  F_alikes : Fun K "alikes" "alikes" st_alikes a.f_alikes a.d_alikes
  m_alikes : mg "alikes" = some (.ref a.f_alikes)
  b_alikes : Binds K a.d_alikes ["thing"] []
  F__law_showing : Fun K "_law_showing" "_law_showing" st__law_showing a.f__law_showing a.d__law_showing
  m__law_showing : mg "_law_showing" = some (.ref a.f__law_showing)
  b__law_showing : Binds K a.d__law_showing ["bag"] []
  F__law_right : Fun K "_law_right" "_law_right" st__law_right a.f__law_right a.d__law_right
  m__law_right : mg "_law_right" = some (.ref a.f__law_right)
  b__law_right : Binds K a.d__law_right ["signs", "found"] []
  F_look_alike : Fun K "look_alike" "look_alike" st_look_alike a.f_look_alike a.d_look_alike
  m_look_alike : mg "look_alike" = some (.ref a.f_look_alike)
  b_look_alike : Binds K a.d_look_alike ["one", "other"] []
  F__law_sign : Fun K "_law_sign" "_law_sign" st__law_sign a.f__law_sign a.d__law_sign
  m__law_sign : mg "_law_sign" = some (.ref a.f__law_sign)
  b__law_sign : Binds K a.d__law_sign ["bag"] []
  F__law_some : Fun K "_law_some" "_law_some" st__law_some a.f__law_some a.d__law_some
  m__law_some : mg "_law_some" = some (.ref a.f__law_some)
  b__law_some : Binds K a.d__law_some ["bag"] []
  F_find_mate : Fun K "find_mate" "find_mate" st_find_mate a.f_find_mate a.d_find_mate
  m_find_mate : mg "find_mate" = some (.ref a.f_find_mate)
  b_find_mate : Binds K a.d_find_mate ["sign", "near", "mates", "seen"] []
  F_most_apart : Fun K "most_apart" "most_apart" st_most_apart a.f_most_apart a.d_most_apart
  m_most_apart : mg "most_apart" = some (.ref a.f_most_apart)
  b_most_apart : Binds K a.d_most_apart ["signs"] []
  F_law : Fun K "law" "law" st_law a.f_law a.d_law
  m_law : mg "law" = some (.ref a.f_law)
  b_law : Binds K a.d_law ["script"] []
  n_enumerate : mg "enumerate" = none
  n_int : mg "int" = none
  n_isinstance : mg "isinstance" = none
  n_len : mg "len" = none
  n_list : mg "list" = none
  n_min : mg "min" = none
  n_range : mg "range" = none
  n_set : mg "set" = none
  n_str : mg "str" = none
  n_tuple : mg "tuple" = none
  m_OTHERS : mg "OTHERS" = some (.ref a.t_OTHERS)
  k_OTHERS : ∀ z d, SM.tb_OTHERS.lookup z = some d → ∃ v, KDct K w a.t_OTHERS z v ∧ ∀ F, Dq K F v d
section
variable {P : Program} {w : World} {K : PySem.W.Frag} {mg : Str → Option Value} {base : Heap} {a : Ad}
noncomputable abbrev N_other_part : List Str := ["part"]
theorem sc_other_part : FnScope N_other_part ["part"] (defScope st_other_part) := ⟨rfl, rfl, rfl, by decide +kernel, rfl, by decide +kernel, by decide +kernel⟩
theorem ok_other_part (A : All K w mg a) : FnOk P w K mg base CX0 1 a.f_other_part a.d_other_part ["part"] (spV K Wx0 1 SM.F_other_part) :=
  fn_ok (k := 0) A.F_other_part sc_other_part fun cdv Ar outer s H E hr => by
   have A := A
   exact (vss_cons (vs_if (vt_val (ve_isi (B := .str) (ve_var 0) (by rfl) A.n_isinstance (by rfl) A.n_str (by decide +kernel))) (vss_one (vs_ret (vn_dat (ve_tab rfl A.m_OTHERS A.k_OTHERS (ve_var 0))))) vss_nil)
    (vss_cons (vs_if (vt_cmp (op_eqD hr.units) ok_eqD (ve_mod (ve_var 0) ve_int) ve_int (nomark _)) (vss_one (vs_ret (vn_dat ve_non))) vss_nil)
    (vss_one (vs_ret (vn_dat (ve_mod (ve_add (ve_var 0) ve_int) ve_int))))))
noncomputable abbrev N_is_odd : List Str := ["sign", "palm", "price", "figure", "place", "turned"]
theorem sc_is_odd : FnScope N_is_odd ["sign"] (defScope st_is_odd) := ⟨rfl, rfl, rfl, by decide +kernel, rfl, by decide +kernel, by decide +kernel⟩
theorem ok_is_odd (A : All K w mg a) : FnOk P w K mg base CX0 1 a.f_is_odd a.d_is_odd ["sign"] (spV K Wx0 1 SM.F_is_odd) :=
  fn_ok (k := 0) A.F_is_odd sc_is_odd fun cdv Ar outer s H E hr => by
   have A := A
   exact (vss_cons (vs_asg (ve_var 0) (vg_tup rfl (vgs_cons (vg_name (i := 1) sc_is_odd.nd) (vgs_cons (vg_name (i := 2) sc_is_odd.nd) (vgs_cons (vg_name (i := 3) sc_is_odd.nd) (vgs_cons (vg_name (i := 4) sc_is_odd.nd) vgs_nil))))))
    (vss_cons (vs_set (i := 5) sc_is_odd.nd (ve_add (ve_add (ve_add (ve_callTy call_int1 ok_intD (by rfl) A.n_int (by decide +kernel) (va_cons (ve_cmp (op_eqD hr.units) ok_eqD (ve_var 1) (ve_strC eOut) (nomark _)) va_nil)) (ve_callTy call_int1 ok_intD (by rfl) A.n_int (by decide +kernel) (va_cons (ve_cmp op_gt ok_icmp (ve_var 2) ve_int (nomark _)) va_nil))) (ve_callTy call_int1 ok_intD (by rfl) A.n_int (by decide +kernel) (va_cons (ve_cmp op_gt ok_icmp (ve_var 3) ve_int (nomark _)) va_nil))) (ve_callTy call_int1 ok_intD (by rfl) A.n_int (by decide +kernel) (va_cons (ve_cmp (op_eqD hr.units) ok_eqD (ve_var 4) (ve_strC eBrow) (nomark _)) va_nil))))
    (vss_one (vs_ret (vn_dat (ve_cmp (op_eqD hr.units) ok_eqD (ve_mod (ve_var 5) ve_int) ve_int (nomark _)))))))
noncomputable abbrev N_reached_from : List Str := ["alone", "near", "mates", "evens", "odds", "waiting", "sign", "other"]
theorem sc_reached_from : FnScope N_reached_from ["alone", "near", "mates"] (defScope st_reached_from) := ⟨rfl, rfl, rfl, by decide +kernel, rfl, by decide +kernel, by decide +kernel⟩
theorem ok_reached_from (A : All K w mg a) : FnOk P w K mg base CX0 1 a.f_reached_from a.d_reached_from ["alone", "near", "mates"] (spV K Wx0 3 SXA.F_reached_from) :=
  fn_ok (k := 0) A.F_reached_from sc_reached_from fun cdv Ar outer s H E hr => by
   have A := A
   exact (vss_cons (vs_setN (i := 3) sc_reached_from.nd (vn_dt (T := [])))
    (vss_cons (vs_setN (i := 4) sc_reached_from.nd (vn_dt (T := [])))
    (vss_cons (vs_setN (i := 5) sc_reached_from.nd (vn_listC (by rfl) A.n_list (vp_var 0)))
    (vss_cons (vs_while (n := SM.fuel) PassesOwn.never (vt_cmp (op_neD hr.units) ok_neD (ve_var 5) (ve_frz (vn_lst va_nil)) (nomark _)) (vss_cons (vs_set (i := 6) sc_reached_from.nd (ve_frz (vn_popT (Ts := [5]) (vp_var 5))))
    (vss_cons (vs_dput (hu1 (hu65 hr)) ve_bl (vp_var 3) (ve_var 6))
    (vss_one (vs_for PassesOwn.never rfl (vi_seq (ve_dget (hu1 (hu65 hr)) (vp_var 1) (ve_var 6))) (vg_name (i := 7) sc_reached_from.nd) (vss_one (vs_if (vt_dnotin (hu1 (hu65 hr)) (ve_var 7) (vp_var 4)) (vss_cons (vs_dput (hu1 (hu65 hr)) ve_bl (vp_var 4) (ve_var 7))
    (vss_one (vs_if (vt_dnotin (hu1 (hu65 hr)) (ve_dget (hu1 (hu65 hr)) (vp_var 2) (ve_var 7)) (vp_var 3)) (vss_one (vs_appd (vp_var 5) (vn_dat (ve_dget (hu1 (hu65 hr)) (vp_var 2) (ve_var 7))))) vss_nil))) vss_nil)))))))
    (vss_one (vs_ret (vn_tupT (vns_cons (vn_mv 3) (vns_cons (vn_mv 4) vns_nil)))))))))
noncomputable abbrev N__law_bag : List Str := ["script", "k", "cell"]
theorem sc__law_bag : FnScope N__law_bag ["script", "k"] (defScope st__law_bag) := ⟨rfl, rfl, rfl, by decide +kernel, rfl, by decide +kernel, by decide +kernel⟩
theorem ok__law_bag (A : All K w mg a) : FnOk P w K mg base CX0 1 a.f__law_bag a.d__law_bag ["script", "k"] (spV K Wx0 2 fBag) :=
  fn_ok (k := 0) A.F__law_bag sc__law_bag fun cdv Ar outer s H E hr => by
   have A := A
   exact (vss_cons (vs_set (i := 2) sc__law_bag.nd ve_int)
    (vss_cons (vs_if (vt_cmp op_lt ok_icmp (ve_var 1) (ve_callB call_len ok_lenD (by rfl) A.n_len (by decide +kernel) (va_cons (ve_var 0) va_nil)) (nomark _)) (vss_one (vs_set (i := 2) sc__law_bag.nd (ve_mod (ve_ix (ve_var 0) (ve_var 1)) (ve_mul (ve_pow ve_int ve_int) (ve_pow ve_int ve_int))))) vss_nil)
    (vss_cons (vs_if (vt_cmp op_lt ok_icmp (ve_var 2) (ve_pow ve_int ve_int) (nomark _)) (vss_one (vs_ret (vn_lst (va_cons ve_int (va_cons (ve_add ve_int (ve_mod (ve_add (ve_mul (ve_var 2) ve_int) (ve_mul ve_int (ve_var 1))) ve_int)) va_nil))))) vss_nil)
    (vss_one (vs_ret (vn_lst (va_cons (ve_var 2) (va_cons (ve_add ve_int (ve_mod (ve_add (ve_var 2) (ve_var 1)) ve_int)) va_nil))))))))
noncomputable abbrev N__law_take : List Str := ["bag", "many", "found"]
theorem sc__law_take : FnScope N__law_take ["bag", "many"] (defScope st__law_take) := ⟨rfl, rfl, rfl, by decide +kernel, rfl, by decide +kernel, by decide +kernel⟩
theorem ok__law_take (A : All K w mg a) : FnOk P w K mg base CX0 1 a.f__law_take a.d__law_take ["bag", "many"] (spV K Wx0 2 fTake) :=
  fn_ok (k := 0) A.F__law_take sc__law_take fun cdv Ar outer s H E hr => by
   have A := A
   exact (vss_cons (vs_if (vt_cmp op_gt ok_icmp (ve_ix (ve_var 0) ve_int) ve_int (nomark _)) (vss_cons (vs_set (i := 2) sc__law_take.nd (ve_mod (ve_ix (ve_var 0) ve_int) (ve_var 1)))
    (vss_cons (vs_setIx (ve_fdiv (ve_ix (ve_var 0) ve_int) (ve_var 1)) (vp_var 0) ve_int)
    (vss_one (vs_retV 2)))) vss_nil)
    (vss_cons (vs_setIx (ve_mod (ve_mul (ve_ix (ve_var 0) ve_int) ve_int) ve_int) (vp_var 0) ve_int)
    (vss_one (vs_ret (vn_dat (ve_mod (ve_fdiv (ve_mod (ve_mul (ve_ix (ve_var 0) ve_int) (ve_ix (ve_var 0) ve_int)) ve_int) ve_int) (ve_var 1)))))))
noncomputable abbrev N__law_likes : List Str := ["thing", "pairs", "found", "k", "one", "other"]
theorem sc__law_likes : FnScope N__law_likes ["thing"] (defScope st__law_likes) := ⟨rfl, rfl, rfl, by decide +kernel, rfl, by decide +kernel, by decide +kernel⟩
theorem ok__law_likes (A : All K w mg a) : FnOk P w K mg base CX0 1 a.f__law_likes a.d__law_likes ["thing"] (spV K Wx0 1 SM.F__law_likes) :=
  fn_ok (k := 0) A.F__law_likes sc__law_likes fun cdv Ar outer s H E hr => by
   have A := A
   exact (vss_cons (vs_set (i := 1) sc__law_likes.nd (ve_frz (vn_lst (va_cons (ve_tup (va_cons (ve_strC eIn) (va_cons (ve_strC eOut) va_nil))) (va_cons (ve_tup (va_cons (ve_strC eChin) (va_cons (ve_strC eBrow) va_nil))) (va_cons (ve_tup (va_cons ve_int (va_cons ve_int va_nil))) (va_cons (ve_tup (va_cons ve_int (va_cons ve_int va_nil))) (va_cons (ve_tup (va_cons ve_int (va_cons ve_int va_nil))) (va_cons (ve_tup (va_cons ve_int (va_cons ve_int va_nil))) va_nil)))))))))
    (vss_cons (vs_setN (i := 2) sc__law_likes.nd (vn_lst va_nil))
    (vss_cons (vs_for PassesOwn.never rfl (vi_range1 (by rfl) A.n_range (va_cons (ve_callB call_len ok_lenD (by rfl) A.n_len (by decide +kernel) (va_cons (ve_var 0) va_nil)) va_nil)) (vg_name (i := 3) sc__law_likes.nd) (vss_one (vs_for PassesOwn.never rfl (vi_seq (ve_var 1)) (vg_tup rfl (vgs_cons (vg_name (i := 4) sc__law_likes.nd) (vgs_cons (vg_name (i := 5) sc__law_likes.nd) vgs_nil))) (vss_one (vs_if (vt_cmp (op_inA (hu65 hr)) ok_inD (ve_ix (ve_var 0) (ve_var 3)) (ve_tup (va_cons (ve_var 4) (va_cons (ve_var 5) va_nil))) rfl) (vss_one (vs_appd (vp_var 2) (vn_dat (ve_add (ve_add (ve_cut (ve_var 0) vo_none (vo_some (ve_var 3))) (ve_tup (va_cons (ve_ix (ve_frz (vn_lst (va_cons (ve_var 4) (va_cons (ve_var 5) va_nil)))) (ve_callTy call_int1 ok_intD (by rfl) A.n_int (by decide +kernel) (va_cons (ve_cmp (op_eqD hr.units) ok_eqD (ve_ix (ve_var 0) (ve_var 3)) (ve_var 4) (nomark _)) va_nil))) va_nil))) (ve_cut (ve_var 0) (vo_some (ve_add (ve_var 3) ve_int)) vo_none))))) vss_nil)))))
    (vss_one (vs_retV 2)))))
noncomputable abbrev N_alikes : List Str := ["thing", "found", "k", "part", "other"]
theorem sc_alikes : FnScope N_alikes ["thing"] (defScope st_alikes) := ⟨rfl, rfl, rfl, by decide +kernel, rfl, by decide +kernel, by decide +kernel⟩
theorem ok_alikes (A : All K w mg a) : FnOk P w K mg base CX0 2 a.f_alikes a.d_alikes ["thing"] (spV K Wx0 1 SM.F_alikes) :=
  fn_ok (k := 1) A.F_alikes sc_alikes fun cdv Ar outer s H E hr => by
   have A := A
   exact (vss_cons (vs_setN (i := 1) sc_alikes.nd (vn_lst va_nil))
    (vss_cons (vs_for PassesOwn.never rfl (vi_enum (by rfl) A.n_enumerate (va_cons (ve_var 0) va_nil)) (vg_tup rfl (vgs_cons (vg_name (i := 2) sc_alikes.nd) (vgs_cons (vg_name (i := 3) sc_alikes.nd) vgs_nil))) (vss_cons (vs_set (i := 4) sc_alikes.nd (ve_frz (vn_call (Ts := [3]) (ok_other_part A) (hr.mono (by decide)) rfl A.m_other_part A.F_other_part.kp A.b_other_part (va_cons (ve_var 3) va_nil))))
    (vss_one (vs_if (vt_cmp op_notN ok_notND (ve_var 4) ve_non (nomark _)) (vss_one (vs_appd (vp_var 1) (vn_dat (ve_add (ve_add (ve_cut (ve_var 0) vo_none (vo_some (ve_var 2))) (ve_tup (va_cons (ve_var 4) va_nil))) (ve_cut (ve_var 0) (vo_some (ve_add (ve_var 2) ve_int)) vo_none))))) vss_nil))))
    (vss_one (vs_retV 1))))
noncomputable abbrev N__law_showing : List Str := ["bag"]
theorem sc__law_showing : FnScope N__law_showing ["bag"] (defScope st__law_showing) := ⟨rfl, rfl, rfl, by decide +kernel, rfl, by decide +kernel, by decide +kernel⟩
theorem ok__law_showing (A : All K w mg a) : FnOk P w K mg base CX0 2 a.f__law_showing a.d__law_showing ["bag"] (spV K Wx0 1 fShowing) :=
  fn_ok (k := 1) A.F__law_showing sc__law_showing fun cdv Ar outer s H E hr => by
   have A := A
   exact (vss_one (vs_ret (vn_dat (ve_tup (va_cons (ve_add ve_int (ve_frz (vn_call (Ts := [0]) (ok__law_take A) (hr.mono (by decide)) rfl A.m__law_take A.F__law_take.kp A.b__law_take (va_cons (ve_var 0) (va_cons ve_int va_nil))))) (va_cons (ve_ix (ve_frz (vn_lst (va_cons (ve_strC eChin) (va_cons (ve_strC eChin) (va_cons (ve_strC eBrow) va_nil))))) (ve_frz (vn_call (Ts := [0]) (ok__law_take A) (hr.mono (by decide)) rfl A.m__law_take A.F__law_take.kp A.b__law_take (va_cons (ve_var 0) (va_cons ve_int va_nil))))) va_nil))))))
noncomputable abbrev N__law_right : List Str := ["signs", "found", "part", "kept", "pairs", "sign", "other", "used", "pair"]
theorem sc__law_right : FnScope N__law_right ["signs", "found"] (defScope st__law_right) := ⟨rfl, rfl, rfl, by decide +kernel, rfl, by decide +kernel, by decide +kernel⟩
theorem ok__law_right (A : All K w mg a) : FnOk P w K mg base CX0 2 a.f__law_right a.d__law_right ["signs", "found"] (spV K Wx0 2 F__law_right) :=
  fn_ok (k := 1) A.F__law_right sc__law_right fun cdv Ar outer s H E hr => by
   have A := A
   exact (vss_cons (vs_if (vw_pt (vw_or (vt_not (vt_val (ve_isi (B := .tuple) (ve_var 1) (by rfl) A.n_isinstance (by rfl) A.n_tuple (by decide +kernel)))) (vw_or1 (vt_cmp (op_neD hr.units) ok_neD (ve_frz (vn_comp (own := [("part", 2)]) rfl sc__law_right.nd (vi_seq (ve_var 1)) (blkOk_by (own := [("part", 2)]) (N := N__law_right) (sc := defScope st__law_right) (by decide +kernel)) (fun _ _ _ _ _ => (vg_name (i := 2) sc__law_right.nd)) (by decide) (fun _ _ _ _ _ => vts_nil) (fun _ _ _ _ _ => (ve_isi (B := .list) (ve_var 2) (by rfl) A.n_isinstance (by rfl) A.n_list (by decide +kernel))))) (ve_frz (vn_lst (va_cons ve_bl (va_cons ve_bl va_nil)))) (nomark _))))) (vss_one (vs_ret (vn_dat ve_bl))) vss_nil)
    (vss_cons (vs_asg (ve_var 1) (vg_tup rfl (vgs_cons (vg_name (i := 3) sc__law_right.nd) (vgs_cons (vg_name (i := 4) sc__law_right.nd) vgs_nil))))
    (vss_cons (vs_if (vt_cmp (op_neD hr.units) ok_neD (ve_var 3) (ve_frz (vn_comp (own := [("sign", 5)]) rfl sc__law_right.nd (vi_seq (ve_var 0)) (blkOk_by (own := [("sign", 5)]) (N := N__law_right) (sc := defScope st__law_right) (by decide +kernel)) (fun _ _ _ _ _ => (vg_name (i := 5) sc__law_right.nd)) (by decide) (fun _ _ _ _ _ => (vts_one (vt_cmp (op_inA (hu65 hr)) ok_inD (ve_var 5) (ve_var 3) rfl))) (fun _ _ _ _ _ => (ve_var 5)))) (nomark _)) (vss_one (vs_ret (vn_dat ve_bl))) vss_nil)
    (vss_cons (vs_for PassesOwn.never rfl (vi_seq (ve_var 3)) (vg_name (i := 5) sc__law_right.nd) (vss_one (vs_if (vt_cmp (op_neD hr.units) ok_neD (ve_frz (vn_comp (own := [("other", 6)]) rfl sc__law_right.nd (vi_seq (ve_frz (vn_call (Ts := [5]) (ok__law_likes A) (hr.mono (by decide)) rfl A.m__law_likes A.F__law_likes.kp A.b__law_likes (va_cons (ve_var 5) va_nil)))) (blkOk_by (own := [("other", 6)]) (N := N__law_right) (sc := defScope st__law_right) (by decide +kernel)) (fun _ _ _ _ _ => (vg_name (i := 6) sc__law_right.nd)) (by decide) (fun _ _ _ _ _ => (vts_one (vt_cmp (op_inA (hu65 hr)) ok_inD (ve_var 6) (ve_var 3) rfl))) (fun _ _ _ _ _ => (ve_var 6)))) (ve_frz (vn_lst va_nil)) (nomark _)) (vss_one (vs_ret (vn_dat ve_bl))) vss_nil)))
    (vss_cons (vs_setN (i := 7) sc__law_right.nd (vn_lst va_nil))
    (vss_cons (vs_for PassesOwn.never rfl (vi_seq (ve_var 4)) (vg_name (i := 8) sc__law_right.nd) (vss_cons (vs_if (vw_pt (vw_or (vt_not (vt_val (ve_isi (B := .tuple) (ve_var 8) (by rfl) A.n_isinstance (by rfl) A.n_tuple (by decide +kernel)))) (vw_or (vt_cmp (op_neD hr.units) ok_neD (ve_callB call_len ok_lenD (by rfl) A.n_len (by decide +kernel) (va_cons (ve_var 8) va_nil)) ve_int (nomark _)) (vw_or1 (vt_cmp (op_notInA (hu65 hr)) ok_notInD (ve_ix (ve_var 8) ve_int) (ve_frz (vn_call (Ts := []) (ok__law_likes A) (hr.mono (by decide)) rfl A.m__law_likes A.F__law_likes.kp A.b__law_likes (va_cons (ve_ix (ve_var 8) ve_int) va_nil))) rfl))))) (vss_one (vs_ret (vn_dat ve_bl))) vss_nil)
    (vss_one (vs_extd (vp_var 7) (ve_callTy call_list_of ok_listD (by rfl) A.n_list (by decide +kernel) (va_cons (ve_var 8) va_nil))))))
    (vss_cons (vs_if (vw_pt (vw_or (vt_cmp (op_neD hr.units) ok_neD (ve_frz (vn_compS (own := [("sign", 5)]) rfl sc__law_right.nd (vis_own 7) (blkOk_by (own := [("sign", 5)]) (N := N__law_right) (sc := defScope st__law_right) (by decide +kernel)) (fun _ _ _ _ _ => (vg_name (i := 5) sc__law_right.nd)) (by decide) (by decide) (fun _ _ _ _ _ => (vts_one (vt_cmp (op_notInA (hu65 hr)) ok_notInD (ve_var 5) (ve_var 0) rfl))) (fun _ _ _ _ _ => (ve_var 5)))) (ve_frz (vn_lst va_nil)) (nomark _)) (vw_or1 (vt_cmp op_lt ok_icmp (ve_lenSetB rfl hr.units (by rfl) A.n_len (by rfl) A.n_set (ve_var 7)) (ve_callB call_len ok_lenD (by rfl) A.n_len (by decide +kernel) (va_cons (ve_var 7) va_nil)) (nomark _))))) (vss_one (vs_ret (vn_dat ve_bl))) vss_nil)
    (vss_one (vs_ret (vn_dat (ve_cmp (op_eqD hr.units) ok_eqD (ve_callB call_len ok_lenD (by rfl) A.n_len (by decide +kernel) (va_cons (ve_var 3) va_nil)) (ve_sub (ve_callB call_len ok_lenD (by rfl) A.n_len (by decide +kernel) (va_cons (ve_var 0) va_nil)) (ve_callB call_len ok_lenD (by rfl) A.n_len (by decide +kernel) (va_cons (ve_var 4) va_nil))) (nomark _))))))))))))
noncomputable abbrev N_look_alike : List Str := ["one", "other"]
theorem sc_look_alike : FnScope N_look_alike ["one", "other"] (defScope st_look_alike) := ⟨rfl, rfl, rfl, by decide +kernel, rfl, by decide +kernel, by decide +kernel⟩
theorem ok_look_alike (A : All K w mg a) : FnOk P w K mg base CX0 3 a.f_look_alike a.d_look_alike ["one", "other"] (spV K Wx0 2 SM.F_look_alike) :=
  fn_ok (k := 2) A.F_look_alike sc_look_alike fun cdv Ar outer s H E hr => by
   have A := A
   exact (vss_one (vs_ret (vn_dat (ve_cmp (op_inA (hu65 hr)) ok_inD (ve_var 1) (ve_frz (vn_call (Ts := [0]) (ok_alikes A) (hr.mono (by decide)) rfl A.m_alikes A.F_alikes.kp A.b_alikes (va_cons (ve_var 0) va_nil))) rfl))))
noncomputable abbrev N__law_sign : List Str := ["bag", "palm"]
theorem sc__law_sign : FnScope N__law_sign ["bag"] (defScope st__law_sign) := ⟨rfl, rfl, rfl, by decide +kernel, rfl, by decide +kernel, by decide +kernel⟩
theorem ok__law_sign (A : All K w mg a) : FnOk P w K mg base CX0 3 a.f__law_sign a.d__law_sign ["bag"] (spV K Wx0 1 fSign) :=
  fn_ok (k := 2) A.F__law_sign sc__law_sign fun cdv Ar outer s H E hr => by
   have A := A
   exact (vss_cons (vs_set (i := 1) sc__law_sign.nd (ve_ix (ve_frz (vn_lst (va_cons (ve_strC eIn) (va_cons (ve_strC eOut) va_nil)))) (ve_frz (vn_call (Ts := [0]) (ok__law_take A) (hr.mono (by decide)) rfl A.m__law_take A.F__law_take.kp A.b__law_take (va_cons (ve_var 0) (va_cons ve_int va_nil))))))
    (vss_one (vs_ret (vn_dat (ve_add (ve_tup (va_cons (ve_var 1) (va_cons (ve_frz (vn_call (Ts := [0]) (ok__law_take A) (hr.mono (by decide)) rfl A.m__law_take A.F__law_take.kp A.b__law_take (va_cons (ve_var 0) (va_cons ve_int va_nil)))) va_nil))) (ve_frz (vn_call (Ts := [0]) (ok__law_showing A) (hr.mono (by decide)) rfl A.m__law_showing A.F__law_showing.kp A.b__law_showing (va_cons (ve_var 0) va_nil))))))))
noncomputable abbrev N__law_some : List Str := ["bag", "many", "found", "near", "last", "k", "sign", "likes"]
theorem sc__law_some : FnScope N__law_some ["bag"] (defScope st__law_some) := ⟨rfl, rfl, rfl, by decide +kernel, rfl, by decide +kernel, by decide +kernel⟩
theorem ok__law_some (A : All K w mg a) : FnOk P w K mg base CX0 4 a.f__law_some a.d__law_some ["bag"] (spV K Wx0 1 F__law_some) :=
  fn_ok (k := 3) A.F__law_some sc__law_some fun cdv Ar outer s H E hr => by
   have A := A
   exact (vss_cons (vs_set (i := 1) sc__law_some.nd (ve_ix (ve_frz (vn_lst (va_cons (ve_frz (vn_call (Ts := [0]) (ok__law_take A) (hr.mono (by decide)) rfl A.m__law_take A.F__law_take.kp A.b__law_take (va_cons (ve_var 0) (va_cons ve_int va_nil)))) (va_cons (ve_frz (vn_call (Ts := [0]) (ok__law_take A) (hr.mono (by decide)) rfl A.m__law_take A.F__law_take.kp A.b__law_take (va_cons (ve_var 0) (va_cons ve_int va_nil)))) (va_cons (ve_frz (vn_call (Ts := [0]) (ok__law_take A) (hr.mono (by decide)) rfl A.m__law_take A.F__law_take.kp A.b__law_take (va_cons (ve_var 0) (va_cons ve_int va_nil)))) va_nil))))) (ve_callB (call_min2 rfl) ok_min2D (by rfl) A.n_min (by decide +kernel) (va_cons ve_int (va_cons (ve_fdiv (ve_frz (vn_call (Ts := [0]) (ok__law_take A) (hr.mono (by decide)) rfl A.m__law_take A.F__law_take.kp A.b__law_take (va_cons (ve_var 0) (va_cons ve_int va_nil)))) ve_int) va_nil)))))
    (vss_cons (vs_setN (i := 2) sc__law_some.nd (vn_dt (T := [])))
    (vss_cons (vs_set (i := 3) sc__law_some.nd (ve_frz (vn_call (Ts := [0]) (ok__law_take A) (hr.mono (by decide)) rfl A.m__law_take A.F__law_take.kp A.b__law_take (va_cons (ve_var 0) (va_cons ve_int va_nil)))))
    (vss_cons (vs_set (i := 4) sc__law_some.nd (ve_frz (vn_call (Ts := [0]) (ok__law_sign A) (hr.mono (by decide)) rfl A.m__law_sign A.F__law_sign.kp A.b__law_sign (va_cons (ve_var 0) va_nil))))
    (vss_cons (vs_for PassesOwn.never rfl (vi_range1 (by rfl) A.n_range (va_cons (ve_var 1) va_nil)) (vg_name (i := 5) sc__law_some.nd) (vss_cons (vs_set (i := 6) sc__law_some.nd (ve_frz (vn_call (Ts := [0]) (ok__law_sign A) (hr.mono (by decide)) rfl A.m__law_sign A.F__law_sign.kp A.b__law_sign (va_cons (ve_var 0) va_nil))))
    (vss_cons (vs_if (vw_pt (vw_and (vt_cmp op_gt ok_icmp (ve_var 3) ve_int (nomark _)) (vw_and1 (vt_cmp op_gt ok_icmp (ve_frz (vn_call (Ts := [0]) (ok__law_take A) (hr.mono (by decide)) rfl A.m__law_take A.F__law_take.kp A.b__law_take (va_cons (ve_var 0) (va_cons ve_int va_nil)))) ve_int (nomark _))))) (vss_cons (vs_set (i := 7) sc__law_some.nd (ve_frz (vn_call (Ts := [4]) (ok__law_likes A) (hr.mono (by decide)) rfl A.m__law_likes A.F__law_likes.kp A.b__law_likes (va_cons (ve_var 4) va_nil))))
    (vss_one (vs_set (i := 6) sc__law_some.nd (ve_ix (ve_var 7) (ve_frz (vn_call (Ts := [0]) (ok__law_take A) (hr.mono (by decide)) rfl A.m__law_take A.F__law_take.kp A.b__law_take (va_cons (ve_var 0) (va_cons (ve_callB call_len ok_lenD (by rfl) A.n_len (by decide +kernel) (va_cons (ve_var 7) va_nil)) va_nil)))))))) vss_nil)
    (vss_cons (vs_dput (hu1 (hu65 hr)) ve_bl (vp_var 2) (ve_var 6))
    (vss_one (vs_set (i := 4) sc__law_some.nd (ve_var 6)))))))
    (vss_one (vs_ret (vn_keysT rfl (by rfl) A.n_list (vp_var 2)))))))))
noncomputable abbrev N_find_mate : List Str := ["sign", "near", "mates", "seen", "other"]
theorem sc_find_mate : FnScope N_find_mate ["sign", "near", "mates", "seen"] (defScope st_find_mate) := ⟨rfl, rfl, rfl, by decide +kernel, rfl, by decide +kernel, by decide +kernel⟩
theorem ok_find_mate (A : All K w mg a) : ∀ j : Nat, FnOk P w K mg base CX0 (1 + j) a.f_find_mate a.d_find_mate ["sign", "near", "mates", "seen"] (spV K Wx0 4 (SXA.F_find_mate j))
  | 0 => fn_ok (k := 0) A.F_find_mate sc_find_mate fun cdv Ar outer s H E hr => vss_noneM
  | j + 1 => fn_ok (k := 1 + j) A.F_find_mate sc_find_mate fun cdv Ar outer s H E hr => by
   have A := A
   have ih := ok_find_mate A j
   exact (vss_cons (vs_for PassesOwn.never rfl (vi_seq (ve_dget (hu1 (hu65 hr)) (vp_var 1) (ve_var 0))) (vg_name (i := 4) sc_find_mate.nd) (vss_one (vs_if (vt_dnotin (hu1 (hu65 hr)) (ve_var 4) (vp_var 3)) (vss_cons (vs_dput (hu1 (hu65 hr)) ve_bl (vp_var 3) (ve_var 4))
    (vss_one (vs_if (vw_pt (vw_or (vt_dnotin (hu1 (hu65 hr)) (ve_var 4) (vp_var 2)) (vw_or1 (vt_val (ve_frz (vn_call (Ts := [1, 2, 3]) ih (hr.mono (by omega)) rfl A.m_find_mate A.F_find_mate.kp A.b_find_mate (va_cons (ve_dget (hu1 (hu65 hr)) (vp_var 2) (ve_var 4)) (va_cons (ve_var 1) (va_cons (ve_var 2) (va_cons (ve_var 3) va_nil)))))))))) (vss_cons (vs_dput (hu1 (hu65 hr)) (ve_var 0) (vp_var 2) (ve_var 4))
    (vss_one (vs_ret (vn_dat ve_bl)))) vss_nil))) vss_nil)))
    (vss_one (vs_ret (vn_dat ve_bl))))
noncomputable abbrev N_most_apart : List Str := ["signs", "odd_ones", "sign", "even_ones", "near", "other", "mates", "alone", "evens", "odds", "kept"]
theorem sc_most_apart : FnScope N_most_apart ["signs"] (defScope st_most_apart) := ⟨rfl, rfl, rfl, by decide +kernel, rfl, by decide +kernel, by decide +kernel⟩
theorem ok_most_apart (A : All K w mg a) : FnOk P w K mg base CX0 192 a.f_most_apart a.d_most_apart ["signs"] (spV K Wx0 1 SXA.F_most_apart) :=
  fn_ok (k := 191) A.F_most_apart sc_most_apart fun cdv Ar outer s H E hr => by
   have A := A
   exact (vss_cons (vs_setCompV (i := 1) (own := [("sign", 2)]) rfl sc_most_apart.nd (vi_seq (ve_var 0)) (blkOk_by (own := [("sign", 2)]) (N := N_most_apart) (sc := defScope st_most_apart) (by decide +kernel)) (fun _ _ _ _ _ => (vg_name (i := 2) sc_most_apart.nd)) (by decide) (fun _ _ _ _ _ => (vts_one (vt_val (ve_frz (vn_call (Ts := [2]) (ok_is_odd A) (hr.mono (by decide)) rfl A.m_is_odd A.F_is_odd.kp A.b_is_odd (va_cons (ve_var 2) va_nil)))))) (fun _ _ _ _ _ => (ve_var 2)))
    (vss_cons (vs_setCompV (i := 3) (own := [("sign", 2)]) rfl sc_most_apart.nd (vi_seq (ve_var 0)) (blkOk_by (own := [("sign", 2)]) (N := N_most_apart) (sc := defScope st_most_apart) (by decide +kernel)) (fun _ _ _ _ _ => (vg_name (i := 2) sc_most_apart.nd)) (by decide) (fun _ _ _ _ _ => (vts_one (vt_not (vt_val (ve_frz (vn_call (Ts := [2]) (ok_is_odd A) (hr.mono (by decide)) rfl A.m_is_odd A.F_is_odd.kp A.b_is_odd (va_cons (ve_var 2) va_nil))))))) (fun _ _ _ _ _ => (ve_var 2)))
    (vss_cons (vs_setN (i := 4) sc_most_apart.nd (vn_dt (T := [])))
    (vss_cons (vs_for PassesOwn.never rfl (vi_seq (ve_var 3)) (vg_name (i := 2) sc_most_apart.nd) (vss_one (vs_dput (hu1 (hu65 hr)) (ve_frz (vn_comp (own := [("other", 5)]) rfl sc_most_apart.nd (vi_seq (ve_var 1)) (blkOk_by (own := [("other", 5)]) (N := N_most_apart) (sc := defScope st_most_apart) (by decide +kernel)) (fun _ _ _ _ _ => (vg_name (i := 5) sc_most_apart.nd)) (by decide) (fun _ _ _ _ _ => (vts_one (vt_val (ve_frz (vn_call (Ts := [2, 5]) (ok_look_alike A) (hr.mono (by decide)) rfl A.m_look_alike A.F_look_alike.kp A.b_look_alike (va_cons (ve_var 2) (va_cons (ve_var 5) va_nil))))))) (fun _ _ _ _ _ => (ve_var 5)))) (vp_var 4) (ve_var 2))))
    (vss_cons (vs_setN (i := 6) sc_most_apart.nd (vn_dt (T := [])))
    (vss_cons (vs_setN (i := 7) sc_most_apart.nd (vn_lst va_nil))
    (vss_cons (vs_for PassesOwn.never rfl (vi_seq (ve_var 3)) (vg_name (i := 2) sc_most_apart.nd) (vss_one (vs_if (vt_not (vt_val (ve_frz (vn_callX (Ts := [2, 4, 6]) (ok_find_mate A 190) (hr.mono (by decide)) rfl A.m_find_mate A.F_find_mate.kp A.b_find_mate (vax_cons (ve_var 2) (vax_cons (ve_var 4) (vax_cons (ve_var 6) (vax_last (vn_dt (T := [])))))))))) (vss_one (vs_appd (vp_var 7) (vn_dat (ve_var 2)))) vss_nil)))
    (vss_cons (vs_unp (i := 8) (j := 9) (vn_call (Ts := [7, 4, 6]) (ok_reached_from A) (hr.mono (by decide)) rfl A.m_reached_from A.F_reached_from.kp A.b_reached_from (va_cons (ve_var 7) (va_cons (ve_var 4) (va_cons (ve_var 6) va_nil)))) (vg_tup rfl (vgs_cons (vg_name (i := 8) sc_most_apart.nd) (vgs_cons (vg_name (i := 9) sc_most_apart.nd) vgs_nil))).1)
    (vss_cons (vs_setComp (i := 10) (own := [("sign", 2)]) rfl sc_most_apart.nd (vi_seq (ve_var 0)) (blkOk_by (own := [("sign", 2)]) (N := N_most_apart) (sc := defScope st_most_apart) (by decide +kernel)) (fun _ _ _ _ _ => (vg_name (i := 2) sc_most_apart.nd)) (by decide) (fun _ _ _ _ _ => (vts_one (vw_pt (vw_or (vt_din (hu1 (hu65 hr)) (ve_var 2) (vp_var 8)) (vw_or1 (vw_pt (vw_and (vt_val (ve_frz (vn_call (Ts := [2]) (ok_is_odd A) (hr.mono (by decide)) rfl A.m_is_odd A.F_is_odd.kp A.b_is_odd (va_cons (ve_var 2) va_nil)))) (vw_and1 (vt_dnotin (hu1 (hu65 hr)) (ve_var 2) (vp_var 9)))))))))) (fun _ _ _ _ _ => (ve_var 2)))
    (vss_one (vs_ret (vn_tupT (vns_cons (vn_mv 10) (vns_cons (vn_comp (own := [("other", 5)]) rfl sc_most_apart.nd (vi_seq (ve_var 1)) (blkOk_by (own := [("other", 5)]) (N := N_most_apart) (sc := defScope st_most_apart) (by decide +kernel)) (fun _ _ _ _ _ => (vg_name (i := 5) sc_most_apart.nd)) (by decide) (fun _ _ _ _ _ => (vts_one (vt_din (hu1 (hu65 hr)) (ve_var 5) (vp_var 6)))) (fun _ _ _ _ _ => (ve_tup (va_cons (ve_dget (hu1 (hu65 hr)) (vp_var 6) (ve_var 5)) (va_cons (ve_var 5) va_nil))))) vns_nil))))))))))))))
noncomputable abbrev N_law : List Str := ["script", "k", "bag", "signs", "handed", "found", "again"]
theorem sc_law : FnScope N_law ["script"] (defScope st_law) := ⟨rfl, rfl, rfl, by decide +kernel, rfl, by decide +kernel, by decide +kernel⟩
theorem ok_law (A : All K w mg a) : FnOk P w K mg base CX0 193 a.f_law a.d_law ["script"] (spV K Wx0 1 F_law) :=
  fn_ok (k := 192) A.F_law sc_law fun cdv Ar outer s H E hr => by
   have A := A
   exact (vss_cons (vs_for PassesOwn.never rfl (vi_range1 (by rfl) A.n_range (va_cons (ve_add ve_int (ve_callB (call_min2 rfl) ok_min2D (by rfl) A.n_min (by decide +kernel) (va_cons (ve_callB call_len ok_lenD (by rfl) A.n_len (by decide +kernel) (va_cons (ve_var 0) va_nil)) (va_cons ve_int va_nil)))) va_nil)) (vg_name (i := 1) sc_law.nd) (vss_cons (vs_setN (i := 2) sc_law.nd (vn_call (Ts := [0, 1]) (ok__law_bag A) (hr.mono (by decide)) rfl A.m__law_bag A.F__law_bag.kp A.b__law_bag (va_cons (ve_var 0) (va_cons (ve_var 1) va_nil))))
    (vss_cons (vs_set (i := 3) sc_law.nd (ve_frz (vn_call (Ts := [2]) (ok__law_some A) (hr.mono (by decide)) rfl A.m__law_some A.F__law_some.kp A.b__law_some (va_cons (ve_var 2) va_nil))))
    (vss_cons (vs_set (i := 4) sc_law.nd (ve_callTy call_list_of ok_listD (by rfl) A.n_list (by decide +kernel) (va_cons (ve_var 3) va_nil)))
    (vss_cons (vs_setN (i := 5) sc_law.nd (vn_call (Ts := [4]) (ok_most_apart A) (hr.mono (by decide)) rfl A.m_most_apart A.F_most_apart.kp A.b_most_apart (va_cons (ve_var 4) va_nil)))
    (vss_cons (vs_if (vw_pt (vw_or (vt_not (vt_val (ve_frz (vn_lendT (ok__law_right A) (hr.mono (by decide)) rfl A.m__law_right A.F__law_right.kp A.b__law_right (vl_d (ve_var 3) (vl_p (vp_var 5) vl_nil)))))) (vw_or1 (vt_cmp (op_neD hr.units) ok_neD (ve_var 4) (ve_var 3) (nomark _))))) (vss_one (vs_ret (vn_dat ve_bl))) vss_nil)
    (vss_cons (vs_set (i := 6) sc_law.nd (ve_frz (vn_call (Ts := [4]) (ok_most_apart A) (hr.mono (by decide)) rfl A.m_most_apart A.F_most_apart.kp A.b_most_apart (va_cons (ve_var 4) va_nil))))
    (vss_cons (vs_appd (vp_ix (vp_var 5) ve_int) (vn_dat ve_non))
    (vss_cons (vs_appd (vp_ix (vp_var 5) ve_int) (vn_dat ve_non))
    (vss_one (vs_if (vw_pt (vw_or (vt_not (vt_val (ve_frz (vn_call (Ts := [3, 6]) (ok__law_right A) (hr.mono (by decide)) rfl A.m__law_right A.F__law_right.kp A.b__law_right (va_cons (ve_var 3) (va_cons (ve_var 6) va_nil)))))) (vw_or1 (vt_cmp (op_neD hr.units) ok_neD (ve_frz (vn_call (Ts := [4]) (ok_most_apart A) (hr.mono (by decide)) rfl A.m_most_apart A.F_most_apart.kp A.b_most_apart (va_cons (ve_var 4) va_nil))) (ve_var 6) (nomark _))))) (vss_one (vs_ret (vn_dat ve_bl))) vss_nil)))))))))))
    (vss_one (vs_ret (vn_dat ve_bl))))
end
end K05

end

section
set_option Elab.async false
set_option linter.all false
set_option maxRecDepth 100000
namespace VL
open PySem PySem.Spec PyProof.Rows L2
section
variable {ρ : Rho}
@[simp] theorem okM_nMv {i : Nat} {Q : Tr → Rho → Prop} : okM (nMv i ρ) Q ↔ okO (match ρ[i]? with
  | some (.own .free t) => some t
  | _ => none) fun t => Q t (ρ.set i (.own .free .hole)) := by
  unfold nMv
  cases h : ρ[i]? with
  | none => simp
  | some s =>
    cases s with
    | own m t => cases m <;> simp
    | _ => simp
noncomputable def flatAt (ρ : Rho) (r : Nat × List Nat) : Option (List PyData) := match treeAt ρ r with
  | some (.lst ts) => flat ts
  | _ => none
@[simp] theorem okM_cCutP {Ts : List Nat} {f : M (Nat × List Nat)} {fl fh : M (Option Int)} {Q : Rv → Rho → Prop} : okM (cCutP Ts f fl fh ρ) Q ↔ okM (f ρ) fun r ρ1 => okM (fl ρ1) fun lo ρ2 => okM (fh ρ2) fun hi ρ3 => Ts.contains r.1 = false ∧ okO (flatAt ρ3 r) fun ds => okO (cutD (.list ds) lo hi) fun z => Q (.d z) ρ3 := by
  unfold cCutP
  simp only [okM_bnd]
  have e : ∀ (r : Nat × List Nat) (lo hi : Option Int) (ρ3 : Rho), okM (cutP1 Ts r lo hi ρ3) Q ↔ Ts.contains r.1 = false ∧ okO (flatAt ρ3 r) fun ds => okO (cutD (.list ds) lo hi) fun z => Q (.d z) ρ3 := fun r lo hi ρ3 => by
    unfold cutP1 flatAt
    by_cases h : Ts.contains r.1 = true
    · rw [if_pos h, h]; simp
    · rw [if_neg h]
      have h' : Ts.contains r.1 = false := by simpa using h
      rw [h']
      simp only [true_and]
      cases hq : treeAt ρ3 r with
      | none => simp
      | some t =>
        cases t with
        | lst ts =>
          simp only
          cases q : flat ts with
          | none => simp
          | some ds =>
            simp only [okO_some]
            cases hz : cutD (.list ds) lo hi <;> simp
        | _ => simp
  simp only [e]
@[simp] theorem okM_cIsiP {B : BT} {f : M (Nat × List Nat)} {Q : Rv → Rho → Prop} : okM (cIsiP B f ρ) Q ↔ okM (f ρ) fun r ρ1 => okO ((treeAt ρ1 r).bind Tr.toD) fun d => okO (isiD B d) fun b => Q (.d (.bool b)) ρ1 := by
  unfold cIsiP
  rw [okM_bnd]
  refine okM_congr fun r ρ1 => ?_
  cases (treeAt ρ1 r).bind Tr.toD with
  | none => simp
  | some d => cases h : isiD B d <;> simp [h]
end
end VL

end

section
set_option Elab.async false
set_option linter.all false
set_option maxRecDepth 100000
namespace VL
open PySem PySem.Spec PyProof.Rows L2
section
variable {ρ : Rho} {P : Out → Prop}
noncomputable def fldIx (c f : Str) : Option Tr → Option Nat
  | some (.ins c' fs) => if c' = c then keyIx f fs else none
  | _ => none
@[simp] theorem okM_pFld {c f : Str} {g : M (Nat × List Nat)} {Q : Nat × List Nat → Rho → Prop} : okM (pFld c f g ρ) Q ↔ okM (g ρ) fun r ρ1 => okO (fldIx c f (treeAt ρ1 r)) fun j => Q (r.1, r.2 ++ [j]) ρ1 := by
  unfold pFld
  rw [okM_bnd]
  refine okM_congr fun r ρ1 => ?_
  unfold fldIx
  cases h : treeAt ρ1 r with
  | none => simp
  | some t =>
    cases t with
    | ins c' fs =>
      simp only
      by_cases e : c' = c
      · rw [if_pos e, if_pos e]
        cases keyIx f fs <;> simp
      · rw [if_neg e, if_neg e]; simp
    | _ => simp
@[simp] theorem okM_meth {c m : Str} {Ts : List Nat} {n i : Nat} {G : Fn} {fs : M (List Rv)} {Q : Tr → Rho → Prop} : okM (nMeth c m Ts n G i fs ρ) Q ↔ isCls c m ρ i = true ∧ okM (fs ρ) fun xs ρ1 => okM (callR Ts n G (.o i :: xs) ρ1) Q := by
  unfold nMeth
  by_cases h : isCls c m ρ i = true
  · rw [if_pos h, okM_bnd]; simp [h]
  · rw [if_neg h]; simp [h]
@[simp] theorem okM_dictC {f : M (Nat × List Nat)} {Q : Tr → Rho → Prop} : okM (nDictC f ρ) Q ↔ okM (f ρ) fun r ρ1 => okO (match treeAt ρ1 r with
  | some (.dk kvs) => dats kvs
  | _ => none) fun ds => Q (.dk (toT ds)) ρ1 := by
  unfold nDictC
  rw [okM_bnd]
  refine okM_congr fun r ρ1 => ?_
  cases h : treeAt ρ1 r with
  | none => simp
  | some t =>
    cases t with
    | dk kvs => simp only; cases dats kvs <;> simp
    | _ => simp
@[simp] theorem okM_listC {f : M (Nat × List Nat)} {Q : Tr → Rho → Prop} : okM (nListC f ρ) Q ↔ okM (f ρ) fun r ρ1 => okO (flatAt ρ1 r) fun ds => Q (.lst (ds.map .dat)) ρ1 := by
  unfold nListC flatAt
  rw [okM_bnd]
  refine okM_congr fun r ρ1 => ?_
  cases h : treeAt ρ1 r with
  | none => simp
  | some t =>
    cases t with
    | lst ts => simp only; cases flat ts <;> simp
    | _ => simp
@[simp] theorem okM_copyDs {v : Nat} {f : M (Nat × List Nat)} {Q : Tr → Rho → Prop} : okM (nCopyDs v f ρ) Q ↔ okM (f ρ) fun r ρ1 => okO (match treeAt ρ1 r with
  | some (.lst ts) => copies ts
  | _ => none) fun dss => (v < ρ1.length ∧ small dss.length = true) ∧ Q (.lst (copyT dss)) ρ1 := by
  unfold nCopyDs
  rw [okM_bnd]
  refine okM_congr fun r ρ1 => ?_
  cases h : treeAt ρ1 r with
  | none => simp
  | some t =>
    cases t with
    | lst ts =>
      simp only
      cases copies ts with
      | none => simp
      | some dss =>
        simp only [okO_some]
        by_cases h : v < ρ1.length ∧ small dss.length = true
        · rw [if_pos (by simpa using h)]; simp only [okM_ok, h, true_and]
        · rw [if_neg (by simpa using h)]
          simp only [okM_none, false_iff]
          exact fun z => h z.1
    | _ => simp
@[simp] theorem okM_mvP {Ts : List Nat} {f : M (Nat × List Nat)} {Q : Tr → Rho → Prop} : okM (nMvP Ts f ρ) Q ↔ okM (f ρ) fun r ρ1 => (Ts.contains r.1 = true ∧ modeOk ρ1 r.1 = true) ∧ okO (treeAt ρ1 r) fun t => Q t (putAt ρ1 r .hole) := by
  unfold nMvP
  rw [okM_bnd]
  refine okM_congr fun r ρ1 => ?_
  rw [← Bool.and_eq_true]
  split
  · rename_i h
    simp only [h, true_and]
    cases treeAt ρ1 r <;> simp
  · rename_i h
    simp only [okM_none, false_iff]
    exact fun z => h z.1
@[simp] theorem okM_popT {Ts : List Nat} {f : M (Nat × List Nat)} {Q : Tr → Rho → Prop} : okM (nPopT Ts f ρ) Q ↔ okM (f ρ) fun r ρ1 => (Ts.contains r.1 = true ∧ modeOk ρ1 r.1 = true) ∧ okO (match treeAt ρ1 r with
  | some (.lst ts) => ts.getLast?.map fun t => (ts, t)
  | _ => none) fun p => Q p.2 (putAt ρ1 r (.lst p.1.dropLast)) := by
  unfold nPopT
  rw [okM_bnd]
  refine okM_congr fun r ρ1 => ?_
  rw [← Bool.and_eq_true]
  split
  · rename_i h
    simp only [h, true_and]
    cases h : treeAt ρ1 r with
    | none => simp
    | some t =>
      cases t with
      | lst ts => simp only; cases ts.getLast? <;> simp
      | _ => simp
  · rename_i h
    simp only [okM_none, false_iff]
    exact fun z => h z.1
@[simp] theorem okM_cEmp {f : M (Nat × List Nat)} {g : M Tr} {Q : Bool → Rho → Prop} : okM (cEmp f g ρ) Q ↔ okM (f ρ) fun r ρ1 => okM (g ρ1) fun tn ρ2 => okO (match treeAt ρ2 r, tn with
  | some (.lst ts), .lst [] => some ts.isEmpty
  | _, _ => none) fun b => Q b ρ2 := by
  unfold cEmp
  rw [okM_bnd]
  refine okM_congr fun r ρ1 => ?_
  rw [okM_bnd]
  refine okM_congr fun tn ρ2 => ?_
  split <;> simp_all
@[simp] theorem okM_lenP {f : M (Nat × List Nat)} {Q : Rv → Rho → Prop} : okM (cLenP f ρ) Q ↔ okM (f ρ) fun r ρ1 => okO (match treeAt ρ1 r with
  | some (.lst ts) => some ts.length
  | _ => none) fun n => Q (.d (.int n)) ρ1 := by
  unfold cLenP
  rw [okM_bnd]
  refine okM_congr fun r ρ1 => ?_
  cases h : treeAt ρ1 r with
  | none => simp
  | some t => cases t <;> simp
@[simp] theorem okM_lNil {Q : List LA → Rho → Prop} : okM (lNil ρ) Q ↔ Q [] ρ := okM_ok
@[simp] theorem okM_lD {f : M Rv} {g : M (List LA)} {Q : List LA → Rho → Prop} : okM (lD f g ρ) Q ↔ okM (f ρ) fun x ρ1 => okM (g ρ1) fun ls ρ2 => okO (rvd x) fun d => Q (.d d :: ls) ρ2 := by
  unfold lD
  rw [okM_bnd]
  refine okM_congr fun x ρ1 => ?_
  rw [okM_bnd]
  refine okM_congr fun ls ρ2 => ?_
  cases x <;> simp [rvd]
@[simp] theorem okM_lP {f : M (Nat × List Nat)} {g : M (List LA)} {Q : List LA → Rho → Prop} : okM (lP f g ρ) Q ↔ okM (f ρ) fun r ρ1 => okM (g ρ1) fun ls ρ2 => Q (.p r :: ls) ρ2 := by
  unfold lP
  simp only [okM_bnd, okM_ret]
@[simp] theorem okM_dtNil {Q : List (Key × Tr) → Rho → Prop} : okM (dtNil ρ) Q ↔ Q [] ρ := okM_ok
@[simp] theorem okM_dtCons {k : Key} {f : M Tr} {g : M (List (Key × Tr))} {Q : List (Key × Tr) → Rho → Prop} : okM (dtCons k f g ρ) Q ↔ okM (f ρ) fun t ρ1 => okM (g ρ1) fun ts ρ2 => Q ((k, t) :: ts) ρ2 := by
  unfold dtCons
  simp only [okM_bnd, okM_ret]
@[simp] theorem okM_disp {f : M (List (Key × Tr))} {Q : Tr → Rho → Prop} : okM (nDisp f ρ) Q ↔ okM (f ρ) fun kts ρ1 => (kts.length ≤ 15 ∧ (kts.map (·.1)).Nodup) ∧ Q (.dk kts) ρ1 := by
  unfold nDisp
  rw [okM_bnd]
  refine okM_congr fun kts ρ1 => ?_
  by_cases h : kts.length ≤ 15 ∧ (kts.map (·.1)).Nodup
  · rw [if_pos (by simpa using h)]; simp [h]
  · rw [if_neg (by simpa using h)]
    simp only [okM_none, false_iff]
    exact fun z => h z.1
end
end VL

end

section
set_option Elab.async false
set_option linter.all false
set_option maxRecDepth 100000
namespace VR
open PySem PySem.Spec PyProof.Rows L2 VL
noncomputable def cvS (i : Nat) (ρ : Rho) : Option Sl → Option (Er Rv)
  | some (.val d) => some (.ok (.d d) ρ)
  | some (.own _ (.dat d)) => some (.ok (.d d) ρ)
  | some (.own _ _) => some (.ok (.o i) ρ)
  | _ => none
theorem ap_cVar {i : Nat} {ρ : Rho} : cVar i ρ = cvS i ρ ρ[i]? := rfl
section
variable {i : Nat} {ρ : Rho} {m : Md}
theorem cv_val {d : PyData} : cvS i ρ (some (.val d)) = some (.ok (.d d) ρ) := rfl
theorem cv_dat {d : PyData} : cvS i ρ (some (.own m (.dat d))) = some (.ok (.d d) ρ) := rfl
theorem cv_tup {ts : List Tr} : cvS i ρ (some (.own m (.tup ts))) = some (.ok (.o i) ρ) := rfl
theorem cv_lst {ts : List Tr} : cvS i ρ (some (.own m (.lst ts))) = some (.ok (.o i) ρ) := rfl
theorem cv_dk {ts : List (Key × Tr)} : cvS i ρ (some (.own m (.dk ts))) = some (.ok (.o i) ρ) := rfl
end
theorem mrg1_val {d : PyData} {o : Option Sl} : mrg1 (.val d) o = .val d := by cases o <;> rfl
theorem mrg1_own {m m' : Md} {t t' : Tr} : mrg1 (.own m t) (some (.own m' t')) = .own m'.unb t' := rfl
theorem mrg_nil {os : List Sl} : mrg [] os = [] := rfl
theorem mrg_cons {a : Sl} {as os : List Sl} : mrg (a :: as) os = mrg1 a os.head? :: mrg as os.tail := rfl
theorem wb_ds (ds : List PyData) {ρ : Rho} {os : List Sl} : wb ρ (ds.map .d) os = ρ := by
  refine List.ext_getElem? fun j => ?_
  rw [wb_get, pure_2]
  cases ρ[j]? <;> rfl
section
variable {ρ : Rho} {os : List Sl} {a b c d e f : PyData}
theorem wb_d0 : wb ρ [] os = ρ := wb_ds []
theorem wb_d1 : wb ρ [.d a] os = ρ := wb_ds [a]
theorem wb_d2 : wb ρ [.d a, .d b] os = ρ := wb_ds [a, b]
theorem wb_d3 : wb ρ [.d a, .d b, .d c] os = ρ := wb_ds [a, b, c]
theorem wb_d4 : wb ρ [.d a, .d b, .d c, .d d] os = ρ := wb_ds [a, b, c, d]
theorem wb_d5 : wb ρ [.d a, .d b, .d c, .d d, .d e] os = ρ := wb_ds [a, b, c, d, e]
end
theorem backOk_nil {os : List Sl} : backOk [] os = true := by cases os <;> rfl
theorem backOk_val {d : PyData} {s : Sl} {as os : List Sl} : backOk (.val d :: as) (s :: os) = backOk as os := rfl
theorem backOk_own {m m' : Md} {t t' : Tr} {as os : List Sl} : backOk (.own m t :: as) (.own m' t' :: os) = backOk as os := rfl
theorem der_d {ρ : Rho} {d : PyData} : der ρ (.d d) = some d := rfl
theorem derS_d {ρ : Rho} {d : PyData} : derS ρ (.d d) = some d := rfl
theorem argSl_d {ρ : Rho} {d : PyData} : argSl ρ (.d d) = some (.val d) := rfl
theorem kd_str {w : Str} : keyD (.str w) = some (.inr w) := rfl
theorem kd_int {i : Int} : keyD (.int i) = some (.inl i) := rfl
theorem ixN_nat {m n : Nat} (h : n < m) : ixN m (n : Int) = some n := by
  unfold ixN
  simp
  omega
theorem eqI {a b : Int} : eqD (.int a) (.int b) = some (decide (a = b)) := by
  show (if SeqAt.shaped (.int a) && SeqAt.shaped (.int b) then some (PyData.eqv (.int a) (.int b)) else none) = _
  rw [shaped_int, shaped_int]
  show some (a == b) = _
  congr 1
theorem neI {a b : Int} : neD (.int a) (.int b) = some (!decide (a = b)) := by
  show (if SeqAt.shaped (.int a) && SeqAt.shaped (.int b) then some (!PyData.eqv (.int a) (.int b)) else none) = _
  rw [shaped_int, shaped_int]
  show some (!(a == b)) = _
  congr 2
theorem ltI {a b : Int} : ltD (.int a) (.int b) = some (decide (a < b)) := rfl
theorem leI {a b : Int} : leD (.int a) (.int b) = some (decide (a ≤ b)) := rfl
theorem gtI {a b : Int} : gtD (.int a) (.int b) = some (decide (a > b)) := rfl
theorem geI {a b : Int} : geD (.int a) (.int b) = some (decide (a ≥ b)) := rfl
theorem addI {a b : Int} : addD (.int a) (.int b) = some (.int (a + b)) := rfl
theorem subtI {a b : Int} : subtD (.int a) (.int b) = some (.int (a - b)) := rfl
section
variable {x0 x1 x2 x3 x4 x5 x6 x7 : PyData} {xs : List PyData}
theorem sub0 : subD (.tuple (x0 :: xs)) (.int 0) = some x0 := by
  show atI (x0 :: xs) 0 = _
  unfold atI
  have : ixN (x0 :: xs).length 0 = some 0 := ixN_nat (n := 0) (by simp)
  rw [this]; rfl
theorem sub1 : subD (.tuple (x0 :: x1 :: xs)) (.int 1) = some x1 := by
  show atI (x0 :: x1 :: xs) 1 = _
  unfold atI
  have : ixN (x0 :: x1 :: xs).length 1 = some 1 := ixN_nat (n := 1) (by simp)
  rw [this]; rfl
theorem sub2 : subD (.tuple (x0 :: x1 :: x2 :: xs)) (.int 2) = some x2 := by
  show atI (x0 :: x1 :: x2 :: xs) 2 = _
  unfold atI
  have : ixN (x0 :: x1 :: x2 :: xs).length 2 = some 2 := ixN_nat (n := 2) (by simp)
  rw [this]; rfl
theorem sub3 : subD (.tuple (x0 :: x1 :: x2 :: x3 :: xs)) (.int 3) = some x3 := by
  show atI (x0 :: x1 :: x2 :: x3 :: xs) 3 = _
  unfold atI
  have : ixN (x0 :: x1 :: x2 :: x3 :: xs).length 3 = some 3 := ixN_nat (n := 3) (by simp)
  rw [this]; rfl
theorem sub4 : subD (.tuple (x0 :: x1 :: x2 :: x3 :: x4 :: xs)) (.int 4) = some x4 := by
  show atI (x0 :: x1 :: x2 :: x3 :: x4 :: xs) 4 = _
  unfold atI
  have : ixN (x0 :: x1 :: x2 :: x3 :: x4 :: xs).length 4 = some 4 := ixN_nat (n := 4) (by simp)
  rw [this]; rfl
theorem sub5 : subD (.tuple (x0 :: x1 :: x2 :: x3 :: x4 :: x5 :: xs)) (.int 5) = some x5 := by
  show atI (x0 :: x1 :: x2 :: x3 :: x4 :: x5 :: xs) 5 = _
  unfold atI
  have : ixN (x0 :: x1 :: x2 :: x3 :: x4 :: x5 :: xs).length 5 = some 5 := ixN_nat (n := 5) (by simp)
  rw [this]; rfl
end
theorem sm0 : small 0 = true := small_of (by decide)
theorem sm1 : small 1 = true := small_of (by decide)
theorem sm2 : small 2 = true := small_of (by decide)
theorem sm3 : small 3 = true := small_of (by decide)
theorem sm4 : small 4 = true := small_of (by decide)
theorem sm5 : small 5 = true := small_of (by decide)
theorem sm6 : small 6 = true := small_of (by decide)
theorem sm7 : small 7 = true := small_of (by decide)
theorem sm8 : small 8 = true := small_of (by decide)
theorem sm9 : small 9 = true := small_of (by decide)
theorem pref {p q : List Nat} : p.isPrefixOf (p ++ q) = true := List.isPrefixOf_iff_prefix.mpr ⟨q, rfl⟩
theorem pref0 {p : List Nat} : p.isPrefixOf p = true := List.isPrefixOf_iff_prefix.mpr ⟨[], by simp⟩
theorem toD_d {d : PyData} : Tr.toD (.dat d) = some d := rfl
end VR

end

section
set_option Elab.async false
set_option linter.all false
set_option maxRecDepth 100000
namespace VR
open PySem PySem.Spec PyProof.Rows L2 VL
theorem ap_bnd {α β : Type} {f : M α} {k : α → M β} {ρ : Rho} : bnd f k ρ = (fun ρ => match f ρ with
  | some (.ok a ρ1) => k a ρ1
  | some (.ex c ρ1) => some (.ex c ρ1)
  | none => none) ρ := rfl
theorem ap_ret {α : Type} {a : α} {ρ : Rho} : VL.ret a ρ = (fun ρ => some (.ok a ρ)) ρ := rfl
theorem ap_cD {x : PyData} {ρ : Rho} : cD x ρ = (VL.ret (.d x)) ρ := rfl
theorem ap_cDGet {T2 : List Nat} {f : M (Nat × List Nat)} {fk : M Rv} {ρ : Rho} : cDGet T2 f fk ρ = (bnd f fun r => bnd fk (dGet1 T2 r)) ρ := rfl
theorem ap_dGet1 {T2 : List Nat} {r : Nat × List Nat} {y : Rv} {ρ : Rho} : dGet1 T2 r y ρ = (fun ρ => if T2.contains r.1 then none else match y, treeAt ρ r with
  | .d d, some t => (match dictAt t d with
    | some (some z) => some (.ok (.d z) ρ)
    | _ => none)
  | _, _ => none) ρ := rfl
theorem ap_cBin {g : PyData → PyData → Option PyData} {fa fb : M Rv} {ρ : Rho} : cBin g fa fb ρ = (bnd fa fun x => bnd fb fun y => bin1 g x y) ρ := rfl
theorem ap_bin1 {g : PyData → PyData → Option PyData} {x y : Rv} {ρ : Rho} : bin1 g x y ρ = (fun ρ => match derS ρ x, derS ρ y with
  | some a, some b => (match g a b with
    | some z => some (.ok (.d z) ρ)
    | none => none)
  | _, _ => none) ρ := rfl
theorem ap_cCmp {g : PyData → PyData → Option Bool} {fa fb : M Rv} {ρ : Rho} : cCmp g fa fb ρ = (bnd fa fun x => bnd fb fun y => binD g x y) ρ := rfl
theorem ap_binD {g : PyData → PyData → Option Bool} {x y : Rv} {ρ : Rho} : binD g x y ρ = (fun ρ => match der ρ x, der ρ y with
  | some a, some b => (match g a b with
    | some z => some (.ok z ρ)
    | none => none)
  | _, _ => none) ρ := rfl
theorem ap_cOf {f : M Bool} {ρ : Rho} : cOf f ρ = (bnd f fun b => VL.ret (.d (.bool b))) ρ := rfl
theorem ap_cChain {g g' : PyData → PyData → Option Bool} {fa fb fc : M Rv} {ρ : Rho} : cChain g g' fa fb fc ρ = (bnd fa fun x => bnd fb fun y => bnd (binD g x y) fun k => if k then bnd fc fun z => binD g' y z else VL.ret false) ρ := rfl
theorem ap_cTest {f : M Rv} {ρ : Rho} : cTest f ρ = (bnd f fun x => fun ρ => match asB ρ x with
  | some b => some (.ok b ρ)
  | none => none) ρ := rfl
theorem ap_cNot {f : M Bool} {ρ : Rho} : cNot f ρ = (bnd f fun b => VL.ret (!b)) ρ := rfl
theorem ap_cAnd {f g : M Bool} {ρ : Rho} : cAnd f g ρ = (bnd f fun b => if b then g else VL.ret false) ρ := rfl
theorem ap_cOr {f g : M Bool} {ρ : Rho} : cOr f g ρ = (bnd f fun b => if b then VL.ret true else g) ρ := rfl
theorem ap_cAndV {f : M Rv} {g : M Rv} {ρ : Rho} : cAndV f g ρ = (bnd (cTest f) fun b => if b then g else VL.ret (.d (.bool false))) ρ := rfl
theorem ap_cOrV {f : M Rv} {g : M Rv} {ρ : Rho} : cOrV f g ρ = (bnd (cTest f) fun b => if b then VL.ret (.d (.bool true)) else g) ρ := rfl
theorem ap_cNotV {f : M Rv} {ρ : Rho} : cNotV f ρ = (bnd (cTest f) fun b => VL.ret (.d (.bool (!b)))) ρ := rfl
theorem ap_cIf {α : Type} {c : M Bool} {f g : M α} {ρ : Rho} : cIf c f g ρ = (bnd c fun b => if b then f else g) ρ := rfl
theorem ap_cTup {fs : M (List Rv)} {ρ : Rho} : cTup fs ρ = (bnd fs mkTup) ρ := rfl
theorem ap_mkTup {rs : List Rv} {ρ : Rho} : mkTup rs ρ = (fun ρ => match datas rs with
  | some ds => if small ds.length then some (.ok (.d (.tuple ds)) ρ) else none
  | none => none) ρ := rfl
theorem ap_aNil  {ρ : Rho} : aNil  ρ = (VL.ret []) ρ := rfl
theorem ap_aCons {f : M Rv} {g : M (List Rv)} {ρ : Rho} : aCons f g ρ = (bnd f fun x => bnd g fun xs => VL.ret (x :: xs)) ρ := rfl
theorem ap_nDat {f : M Rv} {ρ : Rho} : nDat f ρ = (bnd f fun x => fun ρ => match x with
  | .d d => some (.ok (.dat d) ρ)
  | .o _ => none) ρ := rfl
theorem ap_nLst {fs : M (List Rv)} {ρ : Rho} : nLst fs ρ = (bnd fs mkLst) ρ := rfl
theorem ap_mkLst {rs : List Rv} {ρ : Rho} : mkLst rs ρ = (fun ρ => match datas rs with
  | some ds => if small ds.length then some (.ok (.lst (ds.map .dat)) ρ) else none
  | none => none) ρ := rfl
theorem ap_cFrz {f : M Tr} {ρ : Rho} : cFrz f ρ = (bnd f fun t => fun ρ => match t.toD with
  | some d => some (.ok (.d d) ρ)
  | none => none) ρ := rfl
theorem ap_cLeaf {f : M (Nat × List Nat)} {ρ : Rho} : cLeaf f ρ = (bnd f fun r => fun ρ => match treeAt ρ r with
  | some (.dat d) => some (.ok (.d d) ρ)
  | _ => none) ρ := rfl
theorem ap_cLenP {f : M (Nat × List Nat)} {ρ : Rho} : cLenP f ρ = (bnd f fun r => fun ρ => match treeAt ρ r with
  | some (.lst ts) => some (.ok (.d (.int ts.length)) ρ)
  | _ => none) ρ := rfl
theorem ap_cCall {g : List PyData → Option PyData} {fs : M (List Rv)} {ρ : Rho} : cCall g fs ρ = (bnd fs (call1 g)) ρ := rfl
theorem ap_call1 {g : List PyData → Option PyData} {rs : List Rv} {ρ : Rho} : call1 g rs ρ = (fun ρ => match derSs ρ rs with
  | some ds => (match g ds with
    | some z => some (.ok (.d z) ρ)
    | none => none)
  | none => none) ρ := rfl
theorem ap_cNeg {f : M Rv} {ρ : Rho} : cNeg f ρ = (bnd f fun x => fun ρ => match x with
  | .d (.int i) => some (.ok (.d (.int (-i))) ρ)
  | _ => none) ρ := rfl
theorem ap_nNew {t : Tr} {ρ : Rho} : nNew t ρ = (VL.ret t) ρ := rfl
theorem ap_nMeth {c m : Str} {Ts : List Nat} {k : Nat} {G : Fn} {i : Nat} {fs : M (List Rv)} {ρ : Rho} : nMeth c m Ts k G i fs ρ = (fun ρ => if isCls c m ρ i then bnd fs (fun xs => callR Ts k G (.o i :: xs)) ρ else none) ρ := rfl
theorem ap_nMethK {c m : Str} {Ts : List Nat} {k : Nat} {G : Fn} {i j : Nat} {fs : M (List Rv)} {ρ : Rho} : nMethK c m Ts k G i j fs ρ = (fun ρ => if isCls c m ρ i then bnd fs (fun xs => callK Ts k G i j (.o i :: xs)) ρ else none) ρ := rfl
theorem ap_callK {Ts : List Nat} {m : Nat} {f : Fn} {i j : Nat} {rs : List Rv} {ρ : Rho} : callK Ts m f i j rs ρ = (fun ρ => match ρ[i]? with
  | some (.own (.bor p) t) => if isAl ρ[j]? then (match callR Ts m f rs (killA ρ i j t) with
    | some (.ok r ρ1) => (match backA ρ1 i p with
      | some ρ2 => some (.ok r ρ2)
      | none => none)
    | some (.ex c ρ1) => (match backA ρ1 i p with
      | some ρ2 => some (.ex c ρ2)
      | none => none)
    | none => none) else none
  | _ => none) ρ := rfl
theorem ap_nCall {Ts : List Nat} {m : Nat} {f : Fn} {fs : M (List Rv)} {ρ : Rho} : nCall Ts m f fs ρ = (bnd fs (callN Ts m f)) ρ := rfl
theorem ap_callN {Ts : List Nat} {m : Nat} {f : Fn} {rs : List Rv} {ρ : Rho} : callN Ts m f rs ρ = (fun ρ => match argSls ρ rs with
  | some args => if decide (rs.length = m) && (oneEach rs && allIn Ts rs) then (match f args with
    | some (.ret t, outs) => if backOk args (mrg args outs) then some (.ok t (wb ρ rs (mrg args outs))) else none
    | _ => none) else none
  | none => none) ρ := rfl
theorem ap_nCallR {Ts : List Nat} {m : Nat} {f : Fn} {fs : M (List Rv)} {ρ : Rho} : nCallR Ts m f fs ρ = (bnd fs (callR Ts m f)) ρ := rfl
theorem ap_callR {Ts : List Nat} {m : Nat} {f : Fn} {rs : List Rv} {ρ : Rho} : callR Ts m f rs ρ = (fun ρ => match argSls ρ rs with
  | some args => if decide (rs.length = m) && (oneEach rs && allIn Ts rs) then (match f args with
    | some (.ret t, outs) => if backOk args (mrg args outs) then some (.ok t (wb ρ rs (mrg args outs))) else none
    | some (.exc c, outs) => if backOk args (mrg args outs) then some (.ex c (wb ρ rs (mrg args outs))) else none
    | none => none) else none
  | none => none) ρ := rfl
theorem ap_cCut {f : M Rv} {fl fh : M (Option Int)} {ρ : Rho} : cCut f fl fh ρ = (bnd f fun x => bnd fl fun lo => bnd fh fun hi => cut1 x lo hi) ρ := rfl
theorem ap_cut1 {x : Rv} {lo hi : Option Int} {ρ : Rho} : cut1 x lo hi ρ = (fun ρ => match derS ρ x with
  | some d => (match cutD d lo hi with
    | some z => some (.ok (.d z) ρ)
    | none => none)
  | none => none) ρ := rfl
theorem ap_oNone  {ρ : Rho} : oNone  ρ = (VL.ret none) ρ := rfl
theorem ap_oSome {f : M Rv} {ρ : Rho} : oSome f ρ = (bnd f fun x => fun ρ => match x with
  | .d (.int i) => some (.ok (some i) ρ)
  | _ => none) ρ := rfl
theorem ap_cTab {tb : List (Str × PyData)} {f : M Rv} {ρ : Rho} : cTab tb f ρ = (bnd f (tabD tb)) ρ := rfl
theorem ap_tabD {tb : List (Str × PyData)} {x : Rv} {ρ : Rho} : tabD tb x ρ = (fun ρ => match x with
  | .d (.str z) => (match tb.lookup z with
    | some d => some (.ok (.d d) ρ)
    | none => none)
  | _ => none) ρ := rfl
theorem ap_cIsi {B : BT} {f : M Rv} {ρ : Rho} : cIsi B f ρ = (bnd f fun x => fun ρ => match der ρ x with
  | some d => (match isiD B d with
    | some b => some (.ok (.d (.bool b)) ρ)
    | none => none)
  | none => none) ρ := rfl
theorem ap_nCallP {G : Fn} {f : M (Nat × List Nat)} {ρ : Rho} : nCallP G f ρ = (bnd f fun r => fun ρ => match treeAt ρ r with
  | some t => (match G [.own .lock t] with
    | some (.ret (.dat d), _) => some (.ok (.dat d) ρ)
    | _ => none)
  | none => none) ρ := rfl
theorem ap_nLend {m : Nat} {f : Fn} {fs : M (List LA)} {ρ : Rho} : nLend m f fs ρ = (bnd fs (callL m f)) ρ := rfl
theorem ap_callL {m : Nat} {f : Fn} {ls : List LA} {ρ : Rho} : callL m f ls ρ = (fun ρ => match lendV ρ ls with
  | some ds => if ds.length = m then (match f (ds.map .val) with
    | some (.ret t, _) => if noLt t then some (.ok t ρ) else none
    | _ => none) else none
  | none => none) ρ := rfl
theorem ap_lP {f : M (Nat × List Nat)} {g : M (List LA)} {ρ : Rho} : lP f g ρ = (bnd f fun r => bnd g fun ls => VL.ret (.p r :: ls)) ρ := rfl
theorem ap_lD {f : M Rv} {g : M (List LA)} {ρ : Rho} : lD f g ρ = (bnd f fun x => bnd g fun ls => fun ρ => match x with
  | .d d => some (.ok (.d d :: ls) ρ)
  | _ => none) ρ := rfl
theorem ap_lNil  {ρ : Rho} : lNil  ρ = (VL.ret []) ρ := rfl
theorem ap_cDIn {neg : Bool} {fk : M Rv} {f : M (Nat × List Nat)} {ρ : Rho} : cDIn neg fk f ρ = (bnd fk fun y => bnd f (dIn1 neg y)) ρ := rfl
theorem ap_dIn1 {neg : Bool} {y : Rv} {r : Nat × List Nat} {ρ : Rho} : dIn1 neg y r ρ = (fun ρ => match y, treeAt ρ r with
  | .d d, some t => (match dictAt t d with
    | some z => some (.ok (if neg then !z.isSome else z.isSome) ρ)
    | none => none)
  | _, _ => none) ρ := rfl
theorem ap_cEmp {f : M (Nat × List Nat)} {g : M Tr} {ρ : Rho} : cEmp f g ρ = (bnd f fun r => bnd g fun tn => fun ρ => match treeAt ρ r, tn with
  | some (.lst ts), .lst [] => some (.ok ts.isEmpty ρ)
  | _, _ => none) ρ := rfl
theorem ap_cCmpP {g : PyData → PyData → Option Bool} {T2 : List Nat} {fa : M Rv} {f : M (Nat × List Nat)} {ρ : Rho} : cCmpP g T2 fa f ρ = (bnd fa fun x => bnd f fun r => fun ρ => match der ρ x, (treeAt ρ r).bind Tr.toD with
  | some a, some b => (match g a b with
    | some z => some (.ok z ρ)
    | none => none)
  | _, _ => none) ρ := rfl
theorem ap_nDisp (fs : M (List (Key × Tr))) {ρ : Rho} : nDisp fs ρ = (bnd fs fun kts => fun ρ => if decide (kts.length ≤ 15) && decide ((kts.map (·.1)).Nodup) then some (.ok (.dk kts) ρ) else none) ρ := rfl
theorem ap_dtCons {k : Key} {f : M Tr} (g : M (List (Key × Tr))) {ρ : Rho} : dtCons k f g ρ = (bnd f fun t => bnd g fun kts => VL.ret ((k, t) :: kts)) ρ := rfl
theorem ap_dtNil  {ρ : Rho} : dtNil  ρ = (VL.ret []) ρ := rfl
theorem ap_nDictC {f : M (Nat × List Nat)} {ρ : Rho} : nDictC f ρ = (bnd f fun r => fun ρ => match treeAt ρ r with
  | some (.dk kvs) => (match dats kvs with
    | some ds => some (.ok (.dk (toT ds)) ρ)
    | none => none)
  | _ => none) ρ := rfl
theorem ap_nDictS {f : M (Nat × List Nat)} {ρ : Rho} : nDictS f ρ = (bnd f fun r => fun ρ => match treeAt ρ r with
  | some (.sd ds) => some (.ok (.dk (toT ds)) ρ)
  | _ => none) ρ := rfl
theorem ap_nListC {f : M (Nat × List Nat)} {ρ : Rho} : nListC f ρ = (bnd f fun r => fun ρ => match treeAt ρ r with
  | some (.lst ts) => (match flat ts with
    | some ds => some (.ok (.lst (ds.map .dat)) ρ)
    | none => none)
  | _ => none) ρ := rfl
theorem ap_nCopyDs {v : Nat} {f : M (Nat × List Nat)} {ρ : Rho} : nCopyDs v f ρ = (bnd f fun r => fun ρ => match treeAt ρ r with
  | some (.lst ts) => (match copies ts with
    | some dss => if decide (v < ρ.length) && small dss.length then some (.ok (.lst (copyT dss)) ρ) else none
    | none => none)
  | _ => none) ρ := rfl
theorem ap_nCopyM {v : Nat} {f : M (Nat × List Nat)} {ρ : Rho} : nCopyM v f ρ = (bnd f fun r => fun ρ => match treeAt ρ r with
  | some (.lst ts) => (match copiesM ts with
    | some dss => if decide (v < ρ.length) && small dss.length then some (.ok (.lst (copyM dss)) ρ) else none
    | none => none)
  | _ => none) ρ := rfl
theorem ap_nCatMv {Ts T2 : List Nat} {f : M (Nat × List Nat)} {g : M Tr} {ρ : Rho} : nCatMv Ts T2 f g ρ = (bnd f fun r => bnd g fun tn => fun ρ => if !T2.contains r.1 && (Ts.contains r.1 && modeOk ρ r.1) then (match treeAt ρ r, tn with
  | some (.lst ts), .lst us => if small (ts.length + us.length) then some (.ok (.lst (ts ++ us)) (VL.putAt ρ r .hole)) else none
  | _, _ => none) else none) ρ := rfl
theorem ap_nLstT {fs : M (List Tr)} {ρ : Rho} : nLstT fs ρ = (bnd fs fun ts => fun ρ => if small ts.length then some (.ok (.lst ts) ρ) else none) ρ := rfl
theorem ap_tConsM {f : M Tr} {g : M (List Tr)} {ρ : Rho} : tConsM f g ρ = (bnd f fun x => bnd g fun xs => VL.ret (x :: xs)) ρ := rfl
theorem ap_tNilM  {ρ : Rho} : tNilM  ρ = (VL.ret []) ρ := rfl
theorem ap_nTupT {fs : M (List Tr)} {ρ : Rho} : nTupT fs ρ = (bnd fs fun ts => fun ρ => if small ts.length && ts.any isNode then some (.ok (.tup ts) ρ) else none) ρ := rfl
theorem ap_nCutMv {Ts T2 : List Nat} {f : M (Nat × List Nat)} {fl fh : M (Option Int)} {ρ : Rho} : nCutMv Ts T2 f fl fh ρ = (bnd f fun r => bnd fl fun lo => bnd fh fun hi => fun ρ => if !T2.contains r.1 && (Ts.contains r.1 && modeOk ρ r.1) then (match treeAt ρ r with
  | some (.lst ts) => some (.ok (.lst (cutL ts lo hi)) (VL.putAt ρ r .hole))
  | _ => none) else none) ρ := rfl
theorem ap_cLk {i : Nat} {f : M Rv} {ρ : Rho} : cLk i f ρ = (fun ρ => match lkS ρ i with
  | some ρ1 => (match f ρ1 with
    | some (.ok (.d d) ρ2) => (match ρ[i]? with
      | some s => some (.ok (.d d) (ρ2.set i s))
      | none => none)
    | _ => none)
  | none => none) ρ := rfl
theorem ap_nMv {i : Nat} {ρ : Rho} : nMv i ρ = (fun ρ => match ρ[i]? with
  | some (.own .free t) => some (.ok t (ρ.set i (.own .free .hole)))
  | _ => none) ρ := rfl
theorem ap_nMvP {Ts : List Nat} {f : M (Nat × List Nat)} {ρ : Rho} : nMvP Ts f ρ = (bnd f fun r => fun ρ => if Ts.contains r.1 && modeOk ρ r.1 then (match treeAt ρ r with
  | some t => some (.ok t (VL.putAt ρ r .hole))
  | none => none) else none) ρ := rfl
theorem ap_pVar {i : Nat} {ρ : Rho} : pVar i ρ = (fun ρ => match ρ[i]? with
  | some (.own _ _) => some (.ok (i, []) ρ)
  | _ => none) ρ := rfl
theorem ap_pKey {T2 : List Nat} {f : M (Nat × List Nat)} {g : M Rv} {ρ : Rho} : pKey T2 f g ρ = (bnd f fun r => bnd g fun y => fun ρ => if T2.contains r.1 then none else match treeAt ρ r, y with
  | some (.dk kvs), .d d => (match keyD d with
    | some k => (match keyIx k kvs with
      | some j => some (.ok (r.1, r.2 ++ [j]) ρ)
      | none => none)
    | none => none)
  | _, _ => none) ρ := rfl
theorem ap_pIx {T2 : List Nat} {f : M (Nat × List Nat)} {g : M Rv} {ρ : Rho} : pIx T2 f g ρ = (bnd f fun r => bnd g fun y => fun ρ => if T2.contains r.1 then none else match treeAt ρ r, y with
  | some (.lst ts), .d (.int n) => (match ixN ts.length n with
    | some j => some (.ok (r.1, r.2 ++ [j]) ρ)
    | none => none)
  | some (.tup ts), .d (.int n) => (match ixN ts.length n with
    | some j => some (.ok (r.1, r.2 ++ [j]) ρ)
    | none => none)
  | _, _ => none) ρ := rfl
theorem ap_pAl {j : Nat} {ρ : Rho} : pAl j ρ = (fun ρ => match ρ[j]? with
  | some (.al i p) => (match ρ[i]? with
    | some (.own (.bor q) _) => if q = p then some (.ok (i, p) ρ) else none
    | _ => none)
  | _ => none) ρ := rfl
theorem ap_pFld {c f : Str} {fo : M (Nat × List Nat)} {ρ : Rho} : pFld c f fo ρ = (bnd fo fun r => fun ρ => match treeAt ρ r with
  | some (.ins c' fs) => if c' = c then (match keyIx f fs with
    | some j => some (.ok (r.1, r.2 ++ [j]) ρ)
    | none => none) else none
  | _ => none) ρ := rfl
theorem ap_iSeq {f : M Rv} {ρ : Rho} : iSeq f ρ = (bnd f fun x => fun ρ => match x with
  | .d d => (match itemsOf d with
    | some xs => some (.ok xs ρ)
    | none => none)
  | .o _ => none) ρ := rfl
theorem ap_nCat {fa fb : M Rv} {ρ : Rho} : nCat fa fb ρ = (bnd fa fun x => bnd fb fun y => cat1 x y) ρ := rfl
theorem ap_sSeq {g h : MS} {ρ : Rho} : sSeq g h ρ = (fun ρ => match g ρ with
  | some (.nx ρ1) => h ρ1
  | o => o) ρ := rfl
theorem ap_sE {α : Type} {f : M α} {k : α → MS} {ρ : Rho} : sE f k ρ = (fun ρ => match f ρ with
  | some (.ok a ρ1) => k a ρ1
  | some (.ex c ρ1) => some (.ex c ρ1)
  | none => none) ρ := rfl
theorem ap_sIf {c : M Bool} {g h : MS} {ρ : Rho} : sIf c g h ρ = (sE c fun b => if b then g else h) ρ := rfl
theorem ap_sSet {i : Nat} {f : M Rv} {ρ : Rho} : sSet i f ρ = (sE f fun x => match x with
  | .d d => putD i d
  | .o _ => fun _ => none) ρ := rfl
theorem ap_sSetN {i : Nat} {f : M Tr} {ρ : Rho} : sSetN i f ρ = (sE f fun t => fun ρ => (setSl ρ i (.own .free t)).map .nx) ρ := rfl
theorem ap_putD {i : Nat} {d : PyData} {ρ : Rho} : putD i d ρ = (fun ρ => (setSl ρ i (.val d)).map .nx) ρ := rfl
theorem ap_sAsg {G : MG} {f : M Rv} {ρ : Rho} : sAsg G f ρ = (sE f fun x => fun ρ => match x with
  | .d d => (G d ρ).map .nx
  | .o _ => none) ρ := rfl
theorem ap_gT {n : Nat} {Gs : MGs} {zd : PyData} {ρ : Rho} : gT n Gs zd ρ = (fun d ρ => match d with
  | .tuple ds => if ds.length = n then Gs ds ρ else none
  | _ => none) zd ρ := rfl
theorem ap_gsC {G : MG} {Gs : MGs} {zd : List PyData} {ρ : Rho} : gsC G Gs zd ρ = (fun ds ρ => match ds with
  | d :: r => (match G d ρ with
    | some ρ1 => Gs r ρ1
    | none => none)
  | [] => none) zd ρ := rfl
theorem ap_gsN  {zd : List PyData} {ρ : Rho} : gsN  zd ρ = (fun ds ρ => match ds with
  | [] => some ρ
  | _ => none) zd ρ := rfl
theorem ap_gN {i : Nat} {zd : PyData} {ρ : Rho} : gN i zd ρ = (fun d ρ => setSl ρ i (.val d)) zd ρ := rfl
theorem ap_sDrop {f : M Rv} {ρ : Rho} : sDrop f ρ = (sE f fun _ => sNil) ρ := rfl
theorem ap_sNil  {ρ : Rho} : sNil  ρ = (fun ρ => some (.nx ρ)) ρ := rfl
theorem ap_sRet {f : M Tr} {ρ : Rho} : sRet f ρ = (sE f fun t => fun ρ => some (.rt t ρ)) ρ := rfl
theorem ap_sRetN  {ρ : Rho} : sRetN  ρ = (fun ρ => some (.rt (.dat .none) ρ)) ρ := rfl
theorem ap_sRetV {i : Nat} {ρ : Rho} : sRetV i ρ = (fun ρ => match ρ[i]? with
  | some (.val d) => some (.rt (.dat d) ρ)
  | some (.own .free t) => some (.rt t (ρ.set i .no))
  | _ => none) ρ := rfl
theorem ap_sRaise {c : Str} {ρ : Rho} : sRaise c ρ = (fun ρ => some (.ex c ρ)) ρ := rfl
theorem ap_sAl {j : Nat} {f : M (Nat × List Nat)} {ρ : Rho} : sAl j f ρ = (sE f fun r => fun ρ => (mkAl j r ρ).map .nx) ρ := rfl
theorem ap_sEd {i : Nat} {g : MS} {ρ : Rho} : sEd i g ρ = (fun ρ => g (unbor ρ i)) ρ := rfl
theorem ap_sKeyT {T2 : List Nat} {g : M Tr} {f : M (Nat × List Nat)} {fk : M Rv} {ρ : Rho} : sKeyT T2 g f fk ρ = (sE g fun tn => sE f fun r => sE fk (keyT1 T2 tn r)) ρ := rfl
theorem ap_keyT1 {T2 : List Nat} {tn : Tr} {r : Nat × List Nat} {y : Rv} {ρ : Rho} : keyT1 T2 tn r y ρ = (fun ρ => if T2.contains r.1 || !modeA ρ r then none else match y, treeAt ρ r with
  | .d kd, some (.dk kts) => (match keyD kd with
    | some k => if small (kts.length + 1) && decide ((kts.map (·.1)).Nodup) then some (.nx (VL.putAt ρ r (.dk (putR k tn kts)))) else none
    | none => none)
  | _, _ => none) ρ := rfl
theorem ap_sDPut {T2 : List Nat} {fe : M Rv} {f : M (Nat × List Nat)} {fk : M Rv} {ρ : Rho} : VL.sDPut T2 fe f fk ρ = (sE fe fun x => match x with
  | .d d => sE f fun r => sE fk (dPut1 T2 d r)
  | .o _ => fun _ => none) ρ := rfl
theorem ap_dPut1 {T2 : List Nat} {d : PyData} {r : Nat × List Nat} {y : Rv} {ρ : Rho} : dPut1 T2 d r y ρ = (fun ρ => if T2.contains r.1 || !modeOk ρ r.1 then none else match y, treeAt ρ r with
  | .d kd, some (.dk kvs) => (match keyD kd, dats kvs with
    | some k, some ds => if small (ds.length + 1) then some (.nx (VL.putAt ρ r (.dk (toT (putP ds k d))))) else none
    | _, _ => none)
  | .d kd, some (.dt kvs) => (match keyT kd, dats kvs with
    | some k, some ds => if small (ds.length + 1) then some (.nx (VL.putAt ρ r (.dt (toT (putP ds k d))))) else none
    | _, _ => none)
  | _, _ => none) ρ := rfl
theorem ap_sDPutA {T2 : List Nat} {fe : M Rv} {f : M (Nat × List Nat)} {fk : M Rv} {ρ : Rho} : sDPutA T2 fe f fk ρ = (sE fe fun x => match x with
  | .d d => sE f fun r => sE fk (dPutA1 T2 d r)
  | .o _ => fun _ => none) ρ := rfl
theorem ap_dPutA1 {T2 : List Nat} {d : PyData} {r : Nat × List Nat} {y : Rv} {ρ : Rho} : dPutA1 T2 d r y ρ = (fun ρ => if T2.contains r.1 || !modeA ρ r then none else match y, treeAt ρ r with
  | .d kd, some (.dk kvs) => (match keyD kd, dats kvs with
    | some k, some ds => if small (ds.length + 1) then some (.nx (VL.putAt ρ r (.dk (toT (putP ds k d))))) else none
    | _, _ => none)
  | _, _ => none) ρ := rfl
theorem ap_sApp {T2 : List Nat} {f : M (Nat × List Nat)} {g : M Tr} {ρ : Rho} : sApp T2 f g ρ = (sE f fun r => fun ρ => if isLst (treeAt ρ r) then sE g (app1 T2 r) ρ else none) ρ := rfl
theorem ap_app1 {T2 : List Nat} {r : Nat × List Nat} {tn : Tr} {ρ : Rho} : app1 T2 r tn ρ = (fun ρ => if T2.contains r.1 || !modeOk ρ r.1 then none else match treeAt ρ r with
  | some (.lst ts) => if small (ts.length + 1) then some (.nx (VL.putAt ρ r (.lst (ts ++ [tn])))) else none
  | _ => none) ρ := rfl
theorem ap_sFldT {c f : Str} {g : M Tr} {fo : M (Nat × List Nat)} {ρ : Rho} : sFldT c f g fo ρ = (sE g fun t => sE fo (fld1 c f [] t)) ρ := rfl
theorem ap_fld1 {c f : Str} {T2 : List Nat} {tn : Tr} {r : Nat × List Nat} {ρ : Rho} : fld1 c f T2 tn r ρ = (fun ρ => if !modeOk ρ r.1 then none else match treeAt ρ r with
  | some (.ins c' fs) => if c' = c ∧ fs.length < 1000 then some (.nx (VL.putAt ρ r (.ins c (putFT f tn fs)))) else none
  | _ => none) ρ := rfl
theorem ap_sPar {i j : Nat} {fs : M (List Rv)} {ρ : Rho} : sPar i j fs ρ = (sE fs fun rs => fun ρ => match rs with
  | [.d a, .d b] => (match setSl ρ i (.val a) with
    | some ρ1 => (setSl ρ1 j (.val b)).map .nx
    | none => none)
  | _ => none) ρ := rfl
theorem ap_sTryK {cs : List Str} {j k : Nat} {g : MS} {ρ : Rho} : sTryK cs j k g ρ = (fun ρ => match g ρ with
  | some (.ex c ρ1) => if c ∈ cs ∧ isNo ρ1[j]? = true then (match setSl ρ1 k (.val (.str (c ++ plusS))) with
    | some ρ2 => if isNo ρ2[j]? then some (.nx ρ2) else none
    | none => none) else none
  | o => o) ρ := rfl
theorem ap_sUpd {T2 : List Nat} {f : M (Nat × List Nat)} {g : M Tr} {ρ : Rho} : sUpd T2 f g ρ = (sE f fun r => fun ρ => if isDkk (treeAt ρ r) then sE g (upd1 T2 r) ρ else none) ρ := rfl
theorem ap_upd1 {T2 : List Nat} {r : Nat × List Nat} {tn : Tr} {ρ : Rho} : upd1 T2 r tn ρ = (fun ρ => if T2.contains r.1 || !modeOk ρ r.1 then none else match treeAt ρ r, tn with
  | some (.dk kts), .dk us => if small (kts.length + us.length) && decide ((kts.map (·.1)).Nodup) then some (.nx (VL.putAt ρ r (.dk (mergeR kts us)))) else none
  | _, _ => none) ρ := rfl
theorem ap_sPopK {T2 : List Nat} {f : M (Nat × List Nat)} {fk : M Rv} {ρ : Rho} : sPopK T2 f fk ρ = (sE f fun r => fun ρ => if isDk (treeAt ρ r) then sE fk (popK1 T2 r) ρ else none) ρ := rfl
theorem ap_popK1 {T2 : List Nat} {r : Nat × List Nat} {y : Rv} {ρ : Rho} : popK1 T2 r y ρ = (fun ρ => if T2.contains r.1 || !modeOk ρ r.1 then none else match y, treeAt ρ r with
  | .d kd, some (.dk kvs) => (match keyD kd, dats kvs with
    | some k, some ds => if (ds.any fun kv => decide (kv.1 = k)) then some (.nx (VL.putAt ρ r (.dk (toT (ds.filter fun kv => decide (kv.1 ≠ k)))))) else none
    | _, _ => none)
  | _, _ => none) ρ := rfl
theorem ap_sFzP {f : M (Nat × List Nat)} {g : MS} {ρ : Rho} : sFzP f g ρ = (fun ρ => match f ρ with
  | some (.ok r _) => (match fzP ρ r with
    | some ρ1 => g ρ1
    | none => none)
  | _ => none) ρ := rfl
theorem ap_sUnp {i j : Nat} {f : M Tr} {ρ : Rho} : sUnp i j f ρ = (sE f fun t => fun ρ => match t with
  | .tup [t1, t2] => (match setSl ρ i (asSl t1) with
    | some ρ1 => (setSl ρ1 j (asSl t2)).map .nx
    | none => none)
  | _ => none) ρ := rfl
theorem ap_sFor {fi : M (List PyData)} {G : MG} {body : MS} {ρ : Rho} : sFor fi G body ρ = (sE fi fun xs => loopF G body xs) ρ := rfl
theorem ap_sSetIx {T2 : List Nat} {fe : M Rv} {f : M (Nat × List Nat)} {fi : M Rv} {ρ : Rho} : sSetIx T2 fe f fi ρ = (sE fe fun x => match x with
  | .d d => sE f fun r => sE fi (setIx1 T2 d r)
  | .o _ => fun _ => none) ρ := rfl
end VR

end

section
set_option Elab.async false
set_option linter.all false
set_option maxRecDepth 100000
namespace SP
open PySem PySem.Spec PyProof.Rows L2 VL SM
structure St where
  mo : Int
  op : Bool
  off : Int
  held : List (Key × PyData)
  made : List (List (Key × PyData))
  up : List PyData
  dealt : List PyData
noncomputable def numD (x : St) : PyData := .tuple [.int x.mo, .bool x.op, .int x.off]
noncomputable def stT (x : St) : Tr := .tup [.dat (numD x), .dk (toT x.held), .lst (copyT x.made), .lst (x.up.map .dat), .lst (x.dealt.map .dat)]
noncomputable def pastT (p : List (St × PyData)) : List Tr := p.map fun q => .tup [stT q.1, .dat q.2]
noncomputable def hFs (z s : Tr) (mo op off held made up dealt past : Tr) : List (Str × Tr) := [(s_size, z), (s_start, s), (s_moment, mo), (s_opened, op), (s_offered, off), (s_held, held), (s_made, made), (s_put_up, up), (s_dealt, dealt), (s_past, past)]
noncomputable def hT (z s mo op off held made up dealt past : Tr) : Tr := .ins s_Hall (hFs z s mo op off held made up dealt past)
noncomputable def hallT (z s : Int) (x : St) (p : List (St × PyData)) : Tr := hT (.dat (.int z)) (.dat (.int s)) (.dat (.int x.mo)) (.dat (.bool x.op)) (.dat (.int x.off)) (.dk (toT x.held)) (.lst (copyT x.made)) (.lst (x.up.map .dat)) (.lst (x.dealt.map .dat)) (.lst (pastT p))
section
variable {z s : Int} {x : St} {p : List (St × PyData)}
@[simp] theorem kids_hallT : kids (hallT z s x p) = [.dat (.int z), .dat (.int s), .dat (.int x.mo), .dat (.bool x.op), .dat (.int x.off), .dk (toT x.held), .lst (copyT x.made), .lst (x.up.map .dat), .lst (x.dealt.map .dat), .lst (pastT p)] := rfl
@[simp] theorem put_held {y : List (Key × PyData)} : (hallT z s x p).put [5] (.dk (toT y)) = hallT z s { x with held := y } p := rfl
@[simp] theorem put_made {y : List (List (Key × PyData))} : (hallT z s x p).put [6] (.lst (copyT y)) = hallT z s { x with made := y } p := rfl
@[simp] theorem put_past {q : List (St × PyData)} : (hallT z s x p).put [9] (.lst (pastT q)) = hallT z s x q := rfl
end
section
variable {z s mo op off held made up dealt past t : Tr}
theorem ix_size : fldIx s_Hall s_size (some (hT z s mo op off held made up dealt past)) = some 0 := by kernel_rfl
theorem ix_start : fldIx s_Hall s_start (some (hT z s mo op off held made up dealt past)) = some 1 := by kernel_rfl
theorem ix_moment : fldIx s_Hall s_moment (some (hT z s mo op off held made up dealt past)) = some 2 := by kernel_rfl
theorem ix_opened : fldIx s_Hall s_opened (some (hT z s mo op off held made up dealt past)) = some 3 := by kernel_rfl
theorem ix_offered : fldIx s_Hall s_offered (some (hT z s mo op off held made up dealt past)) = some 4 := by kernel_rfl
theorem ix_held : fldIx s_Hall s_held (some (hT z s mo op off held made up dealt past)) = some 5 := by kernel_rfl
theorem ix_made : fldIx s_Hall s_made (some (hT z s mo op off held made up dealt past)) = some 6 := by kernel_rfl
theorem ix_put_up : fldIx s_Hall s_put_up (some (hT z s mo op off held made up dealt past)) = some 7 := by kernel_rfl
theorem ix_dealt : fldIx s_Hall s_dealt (some (hT z s mo op off held made up dealt past)) = some 8 := by kernel_rfl
theorem ix_past : fldIx s_Hall s_past (some (hT z s mo op off held made up dealt past)) = some 9 := by kernel_rfl
end
@[simp] theorem jx_size {z s : Int} {x : St} {p : List (St × PyData)} : fldIx s_Hall s_size (some (hallT z s x p)) = some 0 := ix_size
@[simp] theorem jx_start {z s : Int} {x : St} {p : List (St × PyData)} : fldIx s_Hall s_start (some (hallT z s x p)) = some 1 := ix_start
@[simp] theorem jx_moment {z s : Int} {x : St} {p : List (St × PyData)} : fldIx s_Hall s_moment (some (hallT z s x p)) = some 2 := ix_moment
@[simp] theorem jx_opened {z s : Int} {x : St} {p : List (St × PyData)} : fldIx s_Hall s_opened (some (hallT z s x p)) = some 3 := ix_opened
@[simp] theorem jx_offered {z s : Int} {x : St} {p : List (St × PyData)} : fldIx s_Hall s_offered (some (hallT z s x p)) = some 4 := ix_offered
@[simp] theorem jx_held {z s : Int} {x : St} {p : List (St × PyData)} : fldIx s_Hall s_held (some (hallT z s x p)) = some 5 := ix_held
@[simp] theorem jx_made {z s : Int} {x : St} {p : List (St × PyData)} : fldIx s_Hall s_made (some (hallT z s x p)) = some 6 := ix_made
@[simp] theorem jx_put_up {z s : Int} {x : St} {p : List (St × PyData)} : fldIx s_Hall s_put_up (some (hallT z s x p)) = some 7 := ix_put_up
@[simp] theorem jx_dealt {z s : Int} {x : St} {p : List (St × PyData)} : fldIx s_Hall s_dealt (some (hallT z s x p)) = some 8 := ix_dealt
@[simp] theorem jx_past {z s : Int} {x : St} {p : List (St × PyData)} : fldIx s_Hall s_past (some (hallT z s x p)) = some 9 := ix_past
section
variable {z s mo op off held made up dealt past t : Tr}
end
end SP

end

section
set_option Elab.async false
set_option linter.all false
set_option maxRecDepth 100000
namespace SP
open PySem PySem.Spec PyProof.Rows L2 VL SM
section
variable {z s : Int} {x : St} {p : List (St × PyData)} {m : Md}
theorem pinOw (hm : m.ow = true) (t : Tr) : pinS (.own m t) = .own .pin t := by cases m <;> first | rfl | cases hm
theorem dats_T {ds : List (Key × PyData)} : dats (toT ds) = some ds := by
  induction ds with
  | nil => rfl
  | cons d ds ih =>
    show (dats (toT ds)).map ((d.1, d.2) :: ·) = _
    rw [ih]; rfl
theorem copies_T {ds : List (List (Key × PyData))} : copies (copyT ds) = some ds := by
  induction ds with
  | nil => rfl
  | cons d ds ih =>
    show (match dats (toT d), copies (copyT ds) with
      | some a, some r => some (a :: r)
      | _, _ => none) = _
    rw [dats_T, ih]
theorem kept_ok (hm : m.ow = true) (hl : x.made.length ≤ 16777216) {Q : Tr → List Sl → Prop} (k : Q (stT x) [.own .pin (hallT z s x p)]) : okF (F_Hall_kept [.own m (hallT z s x p)]) Q := by
  unfold F_Hall_kept
  refine okF_run ?_
  unfold g_Hall_kept
  rw [okS_seq]
  refine okS_set ?_
  simp [entry, pinOw hm]
  rw [okS_seq]
  refine okS_setN ?_
  simp [copies_T]
  refine ⟨small_of hl, ?_⟩
  refine okS_ret ?_
  simp [dats_T, flatAt, flat_dat]
  exact k
end
end SP

end

section
set_option Elab.async false
set_option linter.all false
set_option maxRecDepth 100000
namespace SP
open PySem PySem.Spec PyProof.Rows L2 VL SM
section
variable {z s : Int} {x y : St} {p q : List (St × PyData)} {m m2 : Md}
structure Of where
  n : Int
  mem : Int
  a : Str
  b : Int
  c : Int
  d : Str
  pr : Int
  lf : Int
noncomputable def Of.sg (o : Of) : PyData := .tuple [.str o.a, .int o.b, .int o.c, .str o.d]
noncomputable def Of.v (o : Of) : PyData := .tuple [.int o.mem, o.sg, .int o.pr, .int o.lf]
noncomputable def Of.kv (o : Of) : Key × PyData := (.inl o.n, o.v)
end
end SP

end

section
set_option Elab.async false
set_option linter.all false
set_option maxRecDepth 100000
namespace SP
open PySem PySem.Spec PyProof.Rows L2 VL SM
section
variable {z s : Int} {x y : St} {p q : List (St × PyData)} {m m2 : Md} {os : List Of}
@[simp] theorem lk_ix {t : Tr} : fldIx s_Hall s_held (some (setKid (hallT z s x p) 5 t)) = some 5 := by kernel_rfl
@[simp] theorem lk_kids {t : Tr} : kids (setKid (hallT z s x p) 5 t) = [.dat (.int z), .dat (.int s), .dat (.int x.mo), .dat (.bool x.op), .dat (.int x.off), t, .lst (copyT x.made), .lst (x.up.map .dat), .lst (x.dealt.map .dat), .lst (pastT p)] := rfl
noncomputable def PalmS (a : Str) : Prop := a = sIn ∨ a = sOut
noncomputable def mine (i : Int) (a : Str) (o : Of) : Bool := decide (o.mem = i) && decide (o.a = a)
end
end SP

end

section
set_option Elab.async false
set_option linter.all false
set_option maxRecDepth 100000
namespace SH
open PySem PySem.Spec PyProof.Rows L2 VL SM SP
structure Bg where
  a : Int
  b : Int
  sg : PyData
  lk : PyData
  sw : PyData
  se : PyData
  u1 : Bool
  u2 : Bool
  p1 : Int
  c1 : Int
  p2 : Int
  c2 : Int
  mo : Int
  inn : List Int
  wd : Str
  cl : Int
  ch : List (Int × Int × Int)
  co : List (Int × Int × Int)
noncomputable def sdS (u : Bool) : Str := if u then sBought else sSold
noncomputable def Bg.mine (g : Bg) : PyData := .tuple [.int g.a, .int g.b, .str (sdS g.u1), .int g.p1, .int g.c1, .int g.mo]
noncomputable def Bg.their (g : Bg) : PyData := .tuple [.int g.b, .int g.a, .str (sdS g.u2), .int g.p2, .int g.c2, .int g.mo]
noncomputable def csD (r : Int × Int × Int) : PyData := .tuple [.int r.1, .int r.2.1, .int r.2.2]
noncomputable def coK (r : Int × Int × Int) : Key × PyData := (.inl r.1, .tuple [.int r.2.1, .int r.2.2])
noncomputable def Bg.hd (g : Bg) : List (Key × PyData) := [(.inr s_two, .tuple [.int g.a, .int g.b]), (.inr s_signs, .tuple [g.sg, g.lk, g.sw, g.se]), (.inr s_cards, .tuple [g.mine, g.their]), (.inr sIn, .tuple (g.inn.map .int)), (.inr s_word, .str g.wd), (.inr s_called, .int g.cl), (.inr s_consents, .tuple (g.ch.map csD))]
noncomputable def Bg.od (g : Bg) : List (Key × Tr) := [(.inr s_signs, .dat (.tuple [g.sg, g.lk, g.sw, g.se])), (.inr s_cards, .dat (.tuple [g.mine, g.their])), (.inr sIn, .dat (.tuple (g.inn.map .int))), (.inr s_end, .dat (.str g.wd)), (.inr s_called, .dat (.int g.cl)), (.inr s_consents, .sd (g.co.map coK))]
structure S where
  mo : Int
  op : Bool
  off : Int
  held : List Of
  made : List Bg
  up : List PyData
  dl : List PyData
noncomputable def S.st (x : S) : SP.St := ⟨x.mo, x.op, x.off, x.held.map Of.kv, x.made.map Bg.hd, x.up, x.dl⟩
noncomputable abbrev Past := List (S × PyData)
noncomputable def HT (z s : Int) (x : S) (p : Past) : Tr := hallT z s x.st (p.map fun q => (q.1.st, q.2))
section
variable {z s : Int} {x : S} {p : Past} {rest : Rho} {md : Md} {n : Nat} {g : Bg}
end
end SH

end

section
set_option Elab.async false
set_option linter.all false
set_option maxRecDepth 100000
open PySem PySem.Spec PyProof.Rows L2 VL
theorem VR.c_List_map_cons : type_of% @List.map_cons.{0, 0} := by intros; rfl
theorem VR.c_List_map_nil : type_of% @List.map_nil.{0, 0} := by intros; rfl
theorem VR.c_List_length_cons : type_of% @List.length_cons.{0} := by intros; rfl
theorem VR.c_List_length_nil : type_of% @List.length_nil.{0} := by intros; rfl
theorem VR.c_List_cons_append : type_of% @List.cons_append.{0} := by intros; rfl
theorem VR.c_List_nil_append : type_of% @List.nil_append.{0} := by intros; rfl
theorem VR.c_List_getElem_cons_zero : type_of% @List.getElem?_cons_zero.{0} := by intros; rfl
theorem VR.c_List_getElem_cons_succ : type_of% @List.getElem?_cons_succ.{0} := by intros; rfl
theorem VR.c_List_set_cons_zero : type_of% @List.set_cons_zero.{0} := by intros; rfl
theorem VR.c_List_set_cons_succ : type_of% @List.set_cons_succ.{0} := by intros; rfl
theorem VR.c_List_take_succ_cons : type_of% @List.take_succ_cons.{0} := by intros; rfl
theorem VR.c_List_take_zero : type_of% @List.take_zero.{0} := by intros; rfl
theorem VR.c_List_contains_nil : type_of% @List.contains_nil.{0} := @List.contains_nil.{0}
theorem VR.c_Bool_false_or : type_of% @Bool.false_or := by intros; rfl
theorem VR.c_Bool_or_false : type_of% @Bool.or_false := @Bool.or_false
theorem VR.c_Bool_not_true : type_of% @Bool.not_true := by intros; rfl
theorem VR.c_Bool_not_false : type_of% @Bool.not_false := by intros; rfl
theorem VR.c_Bool_false_eq_true : type_of% @Bool.false_eq_true := @Bool.false_eq_true
theorem VR.c_Bool_and_self : type_of% @Bool.and_self := @Bool.and_self
theorem VR.c_Bool_and_true : type_of% @Bool.and_true := @Bool.and_true
theorem VR.c_Bool_true_and : type_of% @Bool.true_and := by intros; rfl
theorem VR.c_Bool_or_self : type_of% @Bool.or_self := @Bool.or_self
theorem VR.c_Bool_and_false : type_of% @Bool.and_false := @Bool.and_false
theorem VR.c_Bool_false_and : type_of% @Bool.false_and := by intros; rfl
theorem VR.c_Bool_or_true : type_of% @Bool.or_true := @Bool.or_true
theorem VR.c_Bool_true_or : type_of% @Bool.true_or := by intros; rfl
theorem VR.c_if_true : type_of% @if_true.{1} := @if_true.{1}
theorem VR.c_if_false : type_of% @if_false.{1} := @if_false.{1}
theorem VR.c_ne_eq : type_of% @ne_eq.{1} := @ne_eq.{1}
theorem VR.c_not_false_eq_true : type_of% @not_false_eq_true := @not_false_eq_true
theorem VR.c_not_true_eq_false : type_of% @not_true_eq_false := @not_true_eq_false
theorem VR.c_decide_true : type_of% @decide_true := @decide_true
theorem VR.c_decide_false : type_of% @decide_false := @decide_false
theorem VR.c_Option_map_some : type_of% @Option.map_some.{0, 0} := by intros; rfl
theorem VR.c_Option_map_none : type_of% @Option.map_none.{0, 0} := by intros; rfl
theorem VR.c_List_head_cons : type_of% @List.head?_cons.{0} := by intros; rfl
theorem VR.c_List_tail_cons : type_of% @List.tail_cons.{0} := by intros; rfl
theorem VR.c_List_all_cons : type_of% @List.all_cons.{0} := @List.all_cons.{0}
theorem VR.c_List_all_nil : type_of% @List.all_nil.{0} := by intros; rfl
theorem VR.c_Option_isNone_none : type_of% @Option.isNone_none.{0} := by intros; rfl
theorem VR.c_Option_isSome_none : type_of% @Option.isSome_none.{0} := by intros; rfl
theorem VR.c_Option_isSome_some : type_of% @Option.isSome_some.{0} := by intros; rfl
theorem VR.c_Option_isNone_some : type_of% @Option.isNone_some.{0} := by intros; rfl
theorem VR.c_List_contains_cons : type_of% @List.contains_cons.{0} := @List.contains_cons.{0}
theorem VR.c_beq_self_eq_true : type_of% @beq_self_eq_true.{0} := @beq_self_eq_true.{0}
theorem VR.c_eq_self : type_of% @eq_self.{1} := @eq_self.{1}
theorem VR.c_and_self : type_of% @and_self := @and_self
theorem VR.c_and_true : type_of% @and_true := @and_true
theorem VR.c_true_and : type_of% @true_and := @true_and
theorem VR.c_and_false : type_of% @and_false := @and_false
theorem VR.c_false_and : type_of% @false_and := @false_and
theorem VR.c_or_self : type_of% @or_self := @or_self
theorem VR.c_or_true : type_of% @or_true := @or_true
theorem VR.c_true_or : type_of% @true_or := @true_or
theorem VR.c_or_false : type_of% @or_false := @or_false
theorem VR.c_false_or : type_of% @false_or := @false_or
theorem VR.c_at_nil : type_of% @at_nil := @at_nil

end

set_option maxRecDepth 1000000
local macro_rules | `(tactic| simp! only [$xs,*]) => `(tactic| simp only [Nat.reduceSub, Nat.reduceAdd, Nat.reduceBEq, Nat.reduceEqDiff, Nat.reduceLT, reduceCtorEq, VL.runF, VL.entry, VL.noAl, VL.isAlOf, VL.treeAt, VL.putAt, VL.modeOk, VL.modeA, VL.mkAl, VL.unbor, VL.isLst, VL.asB, VL.datas, VL.derSs, VL.isAl, VL.killA, VL.backA, VL.argSls, VL.argSl, VL.Md.arg, VL.allIn, VL.oneEach, VL.posOf, VL.wb, VL.wbGo, VL.wb1, VR.c_List_map_cons, VR.c_List_map_nil, VR.c_List_length_cons, VR.c_List_length_nil, VR.c_List_cons_append, VR.c_List_nil_append, VR.c_List_getElem_cons_zero, VR.c_List_getElem_cons_succ, VR.c_List_set_cons_zero, VR.c_List_set_cons_succ, VR.c_List_take_succ_cons, VR.c_List_take_zero, VR.c_List_contains_nil, VR.c_Bool_false_or, VR.c_Bool_or_false, VR.c_Bool_not_true, VR.c_Bool_not_false, VR.c_Bool_false_eq_true, VR.c_Bool_and_self, VR.c_Bool_and_true, VR.c_Bool_true_and, VR.c_Bool_or_self, VR.c_Bool_and_false, VR.c_Bool_false_and, VR.c_Bool_or_true, VR.c_Bool_true_or, VR.c_if_true, VR.c_if_false, VR.c_ne_eq, VR.c_not_false_eq_true, VR.c_not_true_eq_false, VR.c_decide_true, VR.c_decide_false, VR.c_Option_map_some, VR.c_Option_map_none, VR.c_List_head_cons, VR.c_List_tail_cons, VR.c_List_all_cons, VR.c_List_all_nil, VR.c_Option_isNone_none, VR.c_Option_isSome_none, VR.c_Option_isSome_some, VR.c_Option_isNone_some, VR.c_List_contains_cons, VR.c_beq_self_eq_true, VR.c_eq_self, VR.c_and_self, VR.c_and_true, VR.c_true_and, VR.c_and_false, VR.c_false_and, VR.c_or_self, VR.c_or_true, VR.c_true_or, VR.c_or_false, VR.c_false_or, VR.ap_cVar, VR.cv_val, VR.cv_dat, VR.cv_tup, VR.cv_lst, VR.cv_dk, VR.pref, VR.pref0, VR.mrg1_val, VR.mrg1_own, VR.mrg_nil, VR.mrg_cons, VR.wb_d0, VR.wb_d1, VR.wb_d2, VR.wb_d3, VR.wb_d4, VR.wb_d5, VR.backOk_nil, VR.backOk_val, VR.backOk_own, VR.der_d, VR.derS_d, VR.argSl_d, VR.kd_str, VR.kd_int, VR.eqI, VR.neI, VR.ltI, VR.leI, VR.gtI, VR.geI, VR.addI, VR.subtI, VR.sub0, VR.sub1, VR.sub2, VR.sub3, VR.sub4, VR.sub5, VR.sm0, VR.sm1, VR.sm2, VR.sm3, VR.sm4, VR.sm5, VR.sm6, VR.sm7, VR.sm8, VR.sm9, VR.toD_d, VR.c_at_nil, VR.ap_bnd, VR.ap_ret, VR.ap_cD, VR.ap_cDGet, VR.ap_dGet1, VR.ap_cBin, VR.ap_bin1, VR.ap_cCmp, VR.ap_binD, VR.ap_cOf, VR.ap_cChain, VR.ap_cTest, VR.ap_cNot, VR.ap_cAnd, VR.ap_cOr, VR.ap_cAndV, VR.ap_cOrV, VR.ap_cNotV, VR.ap_cIf, VR.ap_cTup, VR.ap_mkTup, VR.ap_aNil, VR.ap_aCons, VR.ap_nDat, VR.ap_nLst, VR.ap_mkLst, VR.ap_cFrz, VR.ap_cLeaf, VR.ap_cLenP, VR.ap_cCall, VR.ap_call1, VR.ap_cNeg, VR.ap_nNew, VR.ap_nMeth, VR.ap_nMethK, VR.ap_callK, VR.ap_nCall, VR.ap_callN, VR.ap_nCallR, VR.ap_callR, VR.ap_cCut, VR.ap_cut1, VR.ap_oNone, VR.ap_oSome, VR.ap_cTab, VR.ap_tabD, VR.ap_cIsi, VR.ap_nCallP, VR.ap_nLend, VR.ap_callL, VR.ap_lP, VR.ap_lD, VR.ap_lNil, VR.ap_cDIn, VR.ap_dIn1, VR.ap_cEmp, VR.ap_cCmpP, VR.ap_nDisp, VR.ap_dtCons, VR.ap_dtNil, VR.ap_nDictC, VR.ap_nDictS, VR.ap_nListC, VR.ap_nCopyDs, VR.ap_nCopyM, VR.ap_nCatMv, VR.ap_nLstT, VR.ap_tConsM, VR.ap_tNilM, VR.ap_nTupT, VR.ap_nCutMv, VR.ap_cLk, VR.ap_nMv, VR.ap_nMvP, VR.ap_pVar, VR.ap_pIx, VR.ap_pAl, VR.ap_iSeq, VR.ap_nCat, VR.ap_sSeq, VR.ap_sE, VR.ap_sIf, VR.ap_sSet, VR.ap_sSetN, VR.ap_putD, VR.ap_sAsg, VR.ap_gT, VR.ap_gsC, VR.ap_gsN, VR.ap_gN, VR.ap_sDrop, VR.ap_sNil, VR.ap_sRet, VR.ap_sRetN, VR.ap_sRetV, VR.ap_sRaise, VR.ap_sAl, VR.ap_sEd, VR.ap_sKeyT, VR.ap_sDPut, VR.ap_dPut1, VR.ap_sDPutA, VR.ap_dPutA1, VR.ap_sApp, VR.ap_app1, VR.ap_sFldT, VR.ap_sPar, VR.ap_sTryK, VR.ap_sUpd, VR.ap_upd1, VR.ap_sPopK, VR.ap_popK1, VR.ap_sFzP, VR.ap_sUnp, VR.ap_sFor, VR.ap_sSetIx, $xs,*])

section

end



section
set_option Elab.async false
set_option linter.all false
set_option maxRecDepth 100000
namespace SP
open PySem PySem.Spec PyProof.Rows L2 VL SM
structure Crd where
  w : Int
  o : Int
  s : Str
  p : Int
  c : Int
  m : Int
deriving DecidableEq
noncomputable def Crd.D (x : Crd) : PyData := .tuple [.int x.w, .int x.o, .str x.s, .int x.p, .int x.c, .int x.m]
noncomputable def SideOk (s : Str) : Prop := s = sBought ∨ s = sSold
structure CrdOk (n : Int) (x : Crd) : Prop where
  w0 : 0 ≤ x.w
  w1 : x.w < n
  o0 : 0 ≤ x.o
  o1 : x.o < n
  wo : x.w ≠ x.o
  hd : SideOk x.s
  p0 : 0 ≤ x.p
  p1 : x.p ≤ 1000000000
  c0 : 1 ≤ x.c
  c1 : x.c ≤ 1000000
  m0 : 0 ≤ x.m
  m1 : x.m ≤ 1000000000
noncomputable def Bel (x y : Crd) : Prop := x.w = y.o ∧ x.o = y.w ∧ x.m = y.m
instance {x y : Crd} : Decidable (Bel x y) := by unfold Bel; infer_instance
theorem Bel.symm {x y : Crd} (h : Bel x y) : Bel y x := ⟨h.2.1.symm, h.1.symm, h.2.2.symm⟩
end SP

end

section
set_option Elab.async false
set_option linter.all false
set_option maxRecDepth 100000
namespace SP
open PySem PySem.Spec PyProof.Rows L2 VL SM
end SP

end

section
set_option Elab.async false
set_option linter.all false
set_option maxRecDepth 100000
set_option maxHeartbeats 1000000
namespace SH
open PySem PySem.Spec PyProof.Rows L2 VL SM SP
section
variable {z s : Int} {x y : S} {p : Past} {md : Md} {n : Nat} {g : Bg}
structure WdOk (g : Bg) : Prop where
  w : g.wd = s_x ∨ g.wd = s_done ∨ g.wd = s_void
  l : g.inn.length ≤ 2
end
end SH

end

section
set_option Elab.async false
set_option linter.all false
set_option maxRecDepth 100000
set_option maxHeartbeats 1000000
namespace SH
open PySem PySem.Spec PyProof.Rows L2 VL SM SP
section
variable {x0 x1 x2 : PyData} {xs : List PyData}
end
section
variable {z s : Int} {x y : S} {p : Past} {md : Md} {n : Nat} {g : Bg}
noncomputable def done1 (x : S) (n : Nat) (g : Bg) (pr ct : Int) : S := { x with made := x.made.set n { g with wd := s_done }, dl := x.dl ++ [.tuple [.int (if g.u1 = true then g.b else g.a), .int (if g.u1 = true then g.a else g.b), .int pr, .int ct, .int g.mo]], up := x.up ++ [.tuple [.int g.mo, .int pr, .int ct]] }
end
end SH

end

section
set_option Elab.async false
set_option linter.all false
set_option maxRecDepth 100000
set_option maxHeartbeats 1000000
namespace SH
open PySem PySem.Spec PyProof.Rows L2 VL SM SP
noncomputable def Bg.q1 (g : Bg) : Bool := decide (g.u1 = g.u2)
noncomputable def Bg.q2 (g : Bg) : Bool := !decide (g.p1 = g.p2)
noncomputable def Bg.q3 (g : Bg) : Bool := !decide (g.c1 = g.c2)
noncomputable def Bg.cm (g : Bg) : Crd := ⟨g.a, g.b, sdS g.u1, g.p1, g.c1, g.mo⟩
noncomputable def Bg.ct (g : Bg) : Crd := ⟨g.b, g.a, sdS g.u2, g.p2, g.c2, g.mo⟩
section
variable {z s : Int} {x y : S} {p : Past} {md : Md} {n : Nat} {g : Bg}
end
end SH

end

section
set_option Elab.async false
set_option linter.all false
set_option maxRecDepth 100000
set_option maxHeartbeats 1000000
namespace SH
open PySem PySem.Spec PyProof.Rows L2 VL SM SP
inductive Way where
  | void
  | done (p c : Int)
  | left
noncomputable def Way.d : Way → PyData
  | .void => .tuple [.str s_void]
  | .done p c => .tuple [.str s_done, .int p, .int c]
  | .left => .tuple [.str s_left]
section
variable {z s : Int} {x y : S} {p : Past} {md : Md} {n : Nat} {g : Bg}
end
end SH

end

section
set_option Elab.async false
set_option linter.all false
set_option maxRecDepth 100000
set_option maxHeartbeats 1000000
namespace SH
open PySem PySem.Spec PyProof.Rows L2 VL SM SP
theorem of_okM {α : Type} {o : Option (Er α)} {a : α} {ρ : Rho} (h : okM o fun b r => b = a ∧ r = ρ) : o = some (.ok a ρ) := by
  obtain ⟨b, r, e, rfl, rfl⟩ := h
  exact e
theorem comp_eq {α : Type} {D : α → PyData} {ds : List α} {fi : M (List PyData)} {v : Nat} {tt : M Bool} {te : M Rv} {ρ : Rho} {s : Sl} (p : α → Bool) (f : α → PyData) (hi : fi ρ = some (.ok (ds.map D) ρ)) (hl : ds.length ≤ 16777216) (hv : ρ[v]? = some s) (hs : unown s = true)
    (ht : ∀ d ∈ ds, tt (ρ.set v (.val (D d))) = some (.ok (p d) (ρ.set v (.val (D d))))) (he : ∀ d ∈ ds, p d = true → te (ρ.set v (.val (D d))) = some (.ok (.d (f d)) (ρ.set v (.val (D d))))) : nComp fi [v] (gN v) tt te ρ = some (.ok (.lst (((ds.filter p).map f).map .dat)) ρ) :=
  of_okM (okM_compM p f hi hl hv hs ht he ⟨rfl, rfl⟩)
theorem toD_ds {ds : List PyData} : Tr.toD (.lst (ds.map .dat)) = some (.list ds) := by
  show (Tr.toDs (ds.map .dat)).map PyData.list = _
  rw [toDs_dat]; rfl
theorem ne_nil {n : Nat} {ds : List PyData} (h : Sh n (.list ds)) (hn : n ≤ 64) : neD (.list ds) (.list []) = some (!ds.isEmpty) := by
  show (if SeqAt.shaped (.list ds) && SeqAt.shaped (.list []) then some (!PyData.eqv (.list ds) (.list [])) else none) = _
  rw [h.ok hn]
  have : SeqAt.shaped (.list []) = true := by decide +kernel
  rw [this]
  cases ds with
  | nil => rfl
  | cons d ds => rfl
section
variable {z s : Int} {x y : S} {p : Past} {md : Md} {n : Nat} {g : Bg}
section
variable {i pr ct : Int} (h : F_Hall_need_theirs [.own .pin (HT z s x p), .val (.int i), .val (.int (n : Nat))] = some (.ret (.dat .none), [.own .pin (HT z s x p), .val (.int i), .val (.int (n : Nat))])) (hg : x.made[n]? = some g) (hw : WdOk g)
end
end
end SH

end

section
set_option Elab.async false
set_option linter.all false
set_option maxRecDepth 100000
namespace SP
open PySem PySem.Spec PyProof.Rows L2 VL SM
noncomputable def sgD (a : Str) (b c : Int) (d : Str) : PyData := .tuple [.str a, .int b, .int c, .str d]
structure SgOk (a : Str) (b c : Int) (d : Str) : Prop where
  ha : a = sIn ∨ a = sOut
  b0 : 0 ≤ b
  b9 : b ≤ 9
  c1 : 1 ≤ c
  c9 : c ≤ 9
  hd : d = sChin ∨ d = sBrow
theorem sgOk_of {d : PyData} (h : IsSign d) : ∃ a b c e, d = sgD a b c e ∧ SgOk a b c e := by
  obtain ⟨ha, c0, c1, h0, h1, hp⟩ := h
  exact ⟨_, _, _, _, rfl, ⟨ha, c0, c1, h0, h1, hp⟩⟩
end SP

end

section
set_option Elab.async false
set_option linter.all false
set_option maxRecDepth 100000
namespace SP
open PySem PySem.Spec PyProof.Rows L2 VL SM
noncomputable def meantZ (c f : Int) : Int := if (f - c) % 10 ≤ 5 then c + (f - c) % 10 else if c ≥ 10 - (f - c) % 10 then c - (10 - (f - c) % 10) else c + (f - c) % 10
inductive JM (c f : Int) (i : Nat) : Rho → Prop where
  | mk {s : Sl} (h : frB (some s) = true) (hn : ∀ j : Nat, j < i → ¬ (c + j) % 10 = f ∧ ¬ ((j : Int) ≤ c ∧ (c - j) % 10 = f)) : JM c f i [.val (.int c), .val (.int f), s]
end SP

end

section
set_option Elab.async false
set_option linter.all false
set_option maxRecDepth 100000
namespace SP
open PySem PySem.Spec PyProof.Rows L2 VL SM
section
variable {z s : Int} {x y : St} {p q : List (St × PyData)} {m m2 : Md} {os : List Of}
noncomputable def Of.Ok (o : Of) : Prop := SgOk o.a o.b o.c o.d
noncomputable def after (o : Of) (os : List Of) : List Of := (os.filter fun e => !mine o.mem o.a e) ++ [o]
end
end SP

end

section
set_option Elab.async false
set_option linter.all false
set_option maxRecDepth 100000
set_option maxHeartbeats 1000000
namespace SH
open PySem PySem.Spec PyProof.Rows L2 VL SM SP
structure HeldOk (os : List Of) (off : Int) : Prop where
  up : os.Pairwise fun a b => a.n < b.n
  lt : ∀ o ∈ os, 0 ≤ o.n ∧ o.n < off
  ok : ∀ o ∈ os, o.Ok
  len : os.length < 10000
section
variable {z s : Int} {x y : S} {p : Past} {md : Md} {n : Nat} {g : Bg}
end
end SH

end

section
set_option Elab.async false
set_option linter.all false
set_option maxRecDepth 100000
set_option maxHeartbeats 1000000
namespace SH
open PySem PySem.Spec PyProof.Rows L2 VL SM SP
theorem seq_nx {g h : MS} {ρ ρ1 : Rho} (e : g ρ = some (.nx ρ1)) : sSeq g h ρ = h ρ1 := by
  unfold sSeq
  rw [e]
theorem rng1 {f : M (List Rv)} {ρ : Rho} {n : Nat} (h : f ρ = some (.ok [.d (.int (n : Nat))] ρ)) (hn : n < 100000) : iRange1 f ρ = some (.ok ((List.range n).map fun k => .int (0 + (k : Nat))) ρ) := by
  unfold iRange1 bnd
  rw [h]
  show (if -(2 ^ 62) ≤ ((n : Nat) : Int) ∧ ((n : Nat) : Int) < 2 ^ 62 then some (Er.ok (rangeD 0 ((n : Nat) : Int).toNat) ρ) else none) = _
  rw [if_pos (by omega)]
  rfl
section
variable {z s : Int} {x y : S} {p : Past} {md : Md} {n : Nat} {g : Bg}
end
end SH

end

section
set_option Elab.async false
set_option linter.all false
set_option maxRecDepth 100000
set_option maxHeartbeats 1000000
namespace SH
open PySem PySem.Spec PyProof.Rows L2 VL SM SP
section
variable {z s : Int} {x y : S} {p : Past} {md : Md} {n : Nat} {g : Bg}
noncomputable def holdS (x : S) (o : Of) : S := { x with held := after o x.held, off := o.n + 1 }
end
end SH

end

section
set_option Elab.async false
set_option linter.all false
set_option maxRecDepth 100000
set_option maxHeartbeats 1000000
namespace SH
open PySem PySem.Spec PyProof.Rows L2 VL SM SP
section
variable {z s : Int} {x y : S} {p : Past} {md : Md} {n : Nat} {g : Bg}
end
end SH

end

section
set_option Elab.async false
set_option linter.all false
set_option maxRecDepth 100000
set_option maxHeartbeats 1000000
namespace SH
open PySem PySem.Spec PyProof.Rows L2 VL SM SP
section
variable {z s : Int} {x y : S} {p : Past} {md : Md} {n : Nat} {g : Bg}
end
end SH

end

section
set_option Elab.async false
set_option linter.all false
set_option maxRecDepth 100000
namespace SH
open PySem PySem.Spec PyProof.Rows L2 VL SM SP
end SH

end

section

end



section
set_option Elab.async false
set_option linter.all false
set_option maxRecDepth 100000
set_option maxHeartbeats 1000000
namespace SH
open PySem PySem.Spec PyProof.Rows L2 VL SM SP
theorem setSl_f {ρ : Rho} {i : Nat} {s : Sl} (h : frB ρ[i]? = true) : setSl ρ i s = some (ρ.set i s) := by
  unfold setSl
  split
  · rename_i h1; rw [h1] at h; cases h
  · rename_i h1; rw [h1] at h; cases h
  · rename_i h1; rw [h1] at h; cases h
  · rfl
  · rename_i h1; rw [h1] at h; cases h
section
variable {z s : Int} {x y : S} {p : Past} {md : Md} {n : Nat} {g : Bg} {rest : Rho}
end
end SH

end

section
set_option Elab.async false
set_option linter.all false
set_option maxRecDepth 100000
set_option maxHeartbeats 1000000
namespace SH
open PySem PySem.Spec PyProof.Rows L2 VL SM SP
inductive Cl where
  | hold (i : Int) (d : PyData)
  | lower (i : Int) (a : Str)
  | take (i o : Int) (lk sw se : PyData)
  | inn (i n : Int)
  | settle (n : Int)
  | cons (i n pr ct : Int)
  | pass (t : Int)
  | close
  | back
noncomputable def Cl.d : Cl → PyData
  | .hold i d => .tuple [.str s_hold, .int i, d]
  | .lower i a => .tuple [.str s_lower, .int i, .str a]
  | .take i o lk sw se => .tuple [.str s_take, .int i, .int o, lk, sw, se]
  | .inn i n => .tuple [.str sIn, .int i, .int n]
  | .settle n => .tuple [.str s_settle, .int n]
  | .cons i n pr ct => .tuple [.str s_consent, .int i, .int n, .int pr, .int ct]
  | .pass t => .tuple [.str s_pass, .int t]
  | .close => .tuple [.str s_close]
  | .back => .tuple [.str s_back]
section
variable {z s : Int} {x y : S} {p : Past} {md : Md} {n : Nat} {g : Bg} {rest : Rho}
end
end SH

end

section
set_option Elab.async false
set_option linter.all false
set_option maxRecDepth 100000
set_option maxHeartbeats 1000000
namespace SH
open PySem PySem.Spec PyProof.Rows L2 VL SM SP
section
variable {z s : Int} {x y : S} {p : Past} {md : Md} {n : Nat} {g : Bg} {rest : Rho}
end
end SH

end

section
set_option Elab.async false
set_option linter.all false
set_option maxRecDepth 100000
set_option maxHeartbeats 1000000
namespace SH
open PySem PySem.Spec PyProof.Rows L2 VL SM SP
section
variable {z s : Int} {x y : S} {p : Past} {md : Md} {n : Nat} {g : Bg} {rest : Rho}
end
end SH

end

section
set_option Elab.async false
set_option linter.all false
set_option maxRecDepth 100000
set_option maxHeartbeats 1000000
namespace SH
open PySem PySem.Spec PyProof.Rows L2 VL SM SP
structure CoOk (g : Bg) : Prop where
  nd : (g.co.map (·.1)).Nodup
  nh : (g.ch.map (·.1)).Nodup
  eq : ∀ r, r ∈ g.co ↔ r ∈ g.ch
  len : g.co.length ≤ 100
  lnh : g.ch.length ≤ 99
section
variable {z s : Int} {x y : S} {p : Past} {md : Md} {n : Nat} {g : Bg} {rest : Rho} {t u : Tr}
end
end SH

end

section
set_option Elab.async false
set_option linter.all false
set_option maxRecDepth 100000
set_option maxHeartbeats 1000000
namespace SH
open PySem PySem.Spec PyProof.Rows L2 VL SM SP
section
variable {z s : Int} {x y : S} {p : Past} {md : Md} {n : Nat} {g : Bg} {rest : Rho} {t u : Tr}
end
end SH

end

section
set_option Elab.async false
set_option linter.all false
set_option maxRecDepth 100000
set_option maxHeartbeats 1000000
namespace SH
open PySem PySem.Spec PyProof.Rows L2 VL SM SP
noncomputable def alks (d : PyData) : List PyData := match F_alikes [.val d] with
  | some (.ret (.lst ts), _) => (flat ts).getD []
  | _ => []
noncomputable def isSgB (d : PyData) : Bool := match F_is_sign [.val d] with
  | some (.ret (.dat (.bool b)), _) => b
  | _ => false
noncomputable def isShB (d : PyData) : Bool := match F_is_showing [.val d] with
  | some (.ret (.dat (.bool b)), _) => b
  | _ => false
noncomputable def lotsD (d : PyData) : Int := match F_lots_of [.val d] with
  | some (.ret (.dat (.int i)), _) => i
  | _ => 0
noncomputable def sgB : PyData → Bool
  | .tuple [.str a, .int b, .int c, .str d] => (decide (a = sIn) || decide (a = sOut)) && decide (0 ≤ b) && decide (b ≤ 9) && decide (1 ≤ c) && decide (c ≤ 9) && (decide (d = sChin) || decide (d = sBrow))
  | _ => false
theorem sgB_ok {d : PyData} (h : sgB d = true) : IsSign d := by
  unfold sgB at h
  split at h
  · simp only [Bool.and_eq_true, Bool.or_eq_true, decide_eq_true_eq] at h
    obtain ⟨⟨⟨⟨⟨h1, h2⟩, h3⟩, h4⟩, h5⟩, h6⟩ := h
    exact .mk h1 h2 h3 h4 h5 h6
  · cases h
noncomputable def chkA (d : PyData) (f : PyData → Bool) : Bool := match F_alikes [.val d] with
  | some (.ret (.lst ts), _) => (match flat ts with
    | some ds => ds.all f && decide (ds.length ≤ 4)
    | none => false)
  | _ => false
theorem chk_sg : ([sIn, sOut].all fun a => (List.range 10).all fun b => (List.range 9).all fun c => [sChin, sBrow].all fun d => chkA (sgD a b (c + 1) d) sgB) = true := by decide +kernel
theorem flat_map {ts : List Tr} {ds : List PyData} (h : flat ts = some ds) : ts = ds.map .dat := by
  induction ts generalizing ds with
  | nil => cases h; rfl
  | cons t ts ih =>
    cases t with
    | dat d =>
      simp only [flat] at h
      cases e : flat ts with
      | none => rw [e] at h; cases h
      | some r =>
        rw [e] at h
        cases h
        rw [ih e]
        rfl
    | _ => simp [flat] at h
theorem chkA_ok {d : PyData} {f : PyData → Bool} (h : chkA d f = true) : (∃ outs, F_alikes [.val d] = some (.ret (.lst ((alks d).map .dat)), outs)) ∧ (alks d).length ≤ 4 ∧ ∀ e ∈ alks d, f e = true := by
  unfold chkA at h
  unfold alks
  split at h
  · rename_i ts outs e
    split at h
    · rename_i ds e2
      simp only [Bool.and_eq_true, List.all_eq_true, decide_eq_true_eq] at h
      rw [e]
      simp only [e2, Option.getD_some]
      exact ⟨⟨outs, by rw [flat_map e2]⟩, h.2, h.1⟩
    · cases h
  · cases h
theorem Sg_al {a d : Str} {b c : Int} (h : SgOk a b c d) : (∃ outs, F_alikes [.val (sgD a b c d)] = some (.ret (.lst ((alks (sgD a b c d)).map .dat)), outs)) ∧ (alks (sgD a b c d)).length ≤ 4 ∧ ∀ e ∈ alks (sgD a b c d), IsSign e := by
  have q := chk_sg
  rw [List.all_eq_true] at q
  have q1 := q a (by simpa using h.ha)
  rw [List.all_eq_true] at q1
  have q2 := q1 b.toNat (List.mem_range.mpr (by have := h.b9; omega))
  rw [List.all_eq_true] at q2
  have q3 := q2 (c - 1).toNat (List.mem_range.mpr (by have := h.c9; have := h.c1; omega))
  rw [List.all_eq_true] at q3
  have q4 := q3 d (by simpa using h.hd)
  have eb : ((b.toNat : Nat) : Int) = b := by have := h.b0; omega
  have ec : (((c - 1).toNat : Nat) : Int) + 1 = c := by have := h.c1; omega
  rw [eb, ec] at q4
  obtain ⟨h1, h2, h3⟩ := chkA_ok q4
  exact ⟨h1, h2, fun e he => sgB_ok (h3 e he)⟩
structure ShOk (c : Int) (d : Str) : Prop where
  c1 : 1 ≤ c
  c9 : c ≤ 9
  hd : d = sChin ∨ d = sBrow
structure TS (d : PyData) : Prop where
  f : ∃ outs, F_is_sign [.val d] = some (.ret (.dat (.bool (isSgB d))), outs)
  g : isSgB d = true → IsSign d
  s : Sh 4 d
structure TW (d : PyData) : Prop where
  f : ∃ outs, F_is_showing [.val d] = some (.ret (.dat (.bool (isShB d))), outs)
  g : isShB d = true → IsShow d
  s : Sh 4 d
theorem lay_pl {e : Str} (h : e = sChin ∨ e = sBrow) : PyData.canLay0 (.str e) = true := by rcases h with rfl | rfl <;> decide +kernel
theorem lay_pm {e : Str} (h : e = sIn ∨ e = sOut) : PyData.canLay0 (.str e) = true := by rcases h with rfl | rfl <;> decide +kernel
theorem sh_sign {d : PyData} (h0 : IsSign d) : Sh 1 d := by
  obtain ⟨a, b, c, e, rfl, h⟩ := sgOk_of h0
  refine Sh.tuple fun y hy => ?_
  simp only [List.mem_cons, List.not_mem_nil, or_false] at hy
  rcases hy with rfl | rfl | rfl | rfl
  · exact Sh.str (lay_pm h.ha)
  · exact Sh.int
  · exact Sh.int
  · exact Sh.str (lay_pl h.hd)
structure AlOk' (d : PyData) : Prop where
  f : ∃ outs, F_alikes [.val d] = some (.ret (.lst ((alks d).map .dat)), outs)
  s : Sh 1 d
  sa : ∀ e ∈ alks d, Sh 1 e
  l : (alks d).length ≤ 4
theorem al_sign {d : PyData} (h0 : IsSign d) : AlOk' d := by
  have hs := sh_sign h0
  obtain ⟨a, b, c, e, rfl, h⟩ := sgOk_of h0
  obtain ⟨h1, h2, h3⟩ := Sg_al h
  exact ⟨h1, hs, fun e he => sh_sign (h3 e he), h2⟩
theorem in_al {d o : PyData} (h : AlOk' d) (ho : Sh 1 o) : inD o (.list (alks d)) = some ((alks d).any fun z => PyData.eqv z o) := by
  show (if SeqAt.shaped o && SeqAt.shaped (.list (alks d)) then some ((alks d).any fun z => PyData.eqv z o) else none) = _
  rw [ho.ok, (Sh.list h.sa).ok]
  rfl
theorem e_look_alike {d o : PyData} (h : AlOk' d) (ho : Sh 1 o) : ∃ outs, F_look_alike [.val d, .val o] = some (.ret (.dat (.bool ((alks d).any fun z => PyData.eqv z o))), outs) := by
  obtain ⟨outs, e⟩ := h.f
  have t := toD_ds (ds := alks d)
  have i := in_al h ho
  refine ⟨[.val d, .val o], ?_⟩
  simp! only [setSl, List.replicate, pinS, Md.unb, VR.ap_fld1, VR.ap_pFld, VR.ap_pKey, VR.ap_keyT1, F_look_alike, g_look_alike, e, t, i]
end SH

end

section
set_option Elab.async false
set_option linter.all false
set_option maxRecDepth 100000
set_option maxHeartbeats 1000000
namespace SH
open PySem PySem.Spec PyProof.Rows L2 VL SM SP
theorem Of.isSign {o : Of} (h : o.Ok) : IsSign o.sg := .mk h.ha h.b0 h.b9 h.c1 h.c9 h.hd
section
variable {z s : Int} {x y : S} {p : Past} {md : Md} {n : Nat} {g : Bg} {rest : Rho} {t u : Tr} {o : Of} {lk sw se : PyData}
end
end SH

end

section
set_option Elab.async false
set_option linter.all false
set_option maxRecDepth 100000
set_option maxHeartbeats 1000000
namespace SH
open PySem PySem.Spec PyProof.Rows L2 VL SM SP
noncomputable def cntT (o : Of) (se : PyData) : Int := if o.lf < lotsD se then o.lf else lotsD se
noncomputable def newB (x : S) (o : Of) (i c : Int) (a2 : Str) (b2 : Int) (lk sw se : PyData) : Bg := ⟨o.mem, i, o.sg, lk, sw, se, decide (o.a = sIn), !decide (a2 = sIn), o.pr, cntT o se, meantZ c b2, lotsD sw, x.mo, [], s_x, c, [], []⟩
noncomputable def lessN (o : Of) (k : Int) : Of := { o with lf := o.lf - k }
noncomputable def heldT (o : Of) (k : Int) (os : List Of) : List Of := if o.lf = k then os.filter (fun e => decide (e.n ≠ o.n)) else os.map fun e => if e.n = o.n then lessN o k else e
noncomputable def tkS (x : S) (o : Of) (i c : Int) (a2 : Str) (b2 : Int) (lk sw se : PyData) : S := { x with held := heldT o (cntT o se) x.held, made := x.made ++ [newB x o i c a2 b2 lk sw se] }
theorem min2 {a b : Int} : min2D [.int a, .int b] = some (.int (if b < a then b else a)) := rfl
section
variable {z s : Int} {x y : S} {p : Past} {md : Md} {n : Nat} {g : Bg} {rest : Rho} {t u : Tr} {o : Of} {lk sw se : PyData}
end
end SH

end

section
set_option Elab.async false
set_option linter.all false
set_option maxRecDepth 100000
set_option maxHeartbeats 2000000
namespace SH
open PySem PySem.Spec PyProof.Rows L2 VL SM SP
section
variable {z s : Int} {x y : S} {p : Past} {md : Md} {n : Nat} {g : Bg} {rest : Rho} {t u : Tr} {o : Of} {sw se : PyData}
end
end SH

end

section
set_option Elab.async false
set_option linter.all false
set_option maxRecDepth 100000
set_option maxHeartbeats 2000000
namespace SH
open PySem PySem.Spec PyProof.Rows L2 VL SM SP
section
variable {z s : Int} {x y : S} {p : Past} {md : Md} {n : Nat} {g : Bg} {rest : Rho} {t u : Tr} {o : Of} {sw se : PyData}
end
end SH

end

section
set_option Elab.async false
set_option linter.all false
set_option maxRecDepth 100000
set_option maxHeartbeats 2000000
namespace SH
open PySem PySem.Spec PyProof.Rows L2 VL SM SP
section
variable {z s : Int} {x y : S} {p : Past} {md : Md} {n : Nat} {g : Bg} {rest : Rho} {t u : Tr} {o : Of} {sw se : PyData}
end
end SH

end

section
set_option Elab.async false
set_option linter.all false
set_option maxRecDepth 100000
set_option maxHeartbeats 2000000
namespace SH
open PySem PySem.Spec PyProof.Rows L2 VL SM SP
section
variable {z s : Int} {x y : S} {p : Past} {md : Md} {n : Nat} {g : Bg} {rest : Rho} {t u : Tr} {o : Of} {sw se : PyData}
end
end SH

end

section
set_option Elab.async false
set_option linter.all false
set_option maxRecDepth 100000
set_option maxHeartbeats 2000000
namespace SH
open PySem PySem.Spec PyProof.Rows L2 VL SM SP
section
variable {z s : Int} {x y : S} {p : Past} {md : Md} {n : Nat} {g : Bg} {rest : Rho} {t u a b c d a' b' c' d' : Tr}
structure ClOk (c : Cl) : Prop where
  h : ∀ i d, c = .hold i d → TS d
  l : ∀ i a, c = .lower i a → PalmS a
  t : ∀ i o lk sw se, c = .take i o lk sw se → TS lk ∧ TW sw ∧ TW se
end
end SH

end

section
set_option Elab.async false
set_option linter.all false
set_option maxRecDepth 100000
set_option maxHeartbeats 2000000
namespace SH
open PySem PySem.Spec PyProof.Rows L2 VL SM SP
noncomputable def kinds : List Str := [s_Closed, s_NoMember, s_NoOffer, s_NoBargain, s_NotTheirs, s_Twice, s_NoQuarrel, s_NoWay, s_BadNumber, s_NoSign, s_NotSeen, s_TooMany, s_Own]
section
variable {z s : Int} {x y : S} {p : Past} {md : Md} {n : Nat} {g : Bg} {rest : Rho}
noncomputable def Cl.w : Cl → Str
  | .hold _ _ => s_hold
  | .lower _ _ => s_lower
  | .take _ _ _ _ _ => s_take
  | .inn _ _ => sIn
  | .settle _ => s_settle
  | .cons _ _ _ _ => s_consent
  | .pass _ => s_pass
  | .close => s_close
  | .back => s_back
theorem Cl.d0 {c : Cl} : subD c.d (.int 0) = some (.str c.w) := by cases c <;> exact VR.sub0
end
end SH

end

section
set_option Elab.async false
set_option linter.all false
set_option maxRecDepth 100000
set_option maxHeartbeats 2000000
namespace SH
open PySem PySem.Spec PyProof.Rows L2 VL SM SP
section
variable {z s : Int} {x y x' : S} {p p' : Past} {md : Md} {n : Nat} {g : Bg} {rest : Rho} {t u : Tr}
end
end SH

end

section
set_option Elab.async false
set_option linter.all false
set_option maxRecDepth 100000
namespace SP
open PySem PySem.Spec PyProof.Rows L2 VL
structure Pr where
  m : Int
  p : Int
  c : Int
noncomputable def Pr.D (x : Pr) : PyData := .tuple [.int x.m, .int x.p, .int x.c]
structure PrOk (x : Pr) : Prop where
  m0 : 0 ≤ x.m
  p0 : 0 ≤ x.p
  p1 : x.p ≤ 1000000000
  c0 : 1 ≤ x.c
  c1 : x.c ≤ 1000000
noncomputable def mx : List Int → Int
  | [] => 0
  | x :: xs => maxI x xs
noncomputable def mn : List Int → Int
  | [] => 0
  | x :: xs => minI x xs
noncomputable def dst (xs : List Int) : List Int := xs.foldl (fun ks x => if x ∈ ks then ks else ks ++ [x]) []
noncomputable def grp (k : Int) (ps : List Pr) : List Pr := ps.filter fun x => x.m == k
noncomputable def ms (ps : List Pr) : List Int := ps.map (·.m)
noncomputable def pr (ps : List Pr) : List Int := ps.map (·.p)
noncomputable def lots (ps : List Pr) : Int := (ps.map (·.c)).sum
noncomputable def cnt (y : Int) (ps : List Pr) : Int := lots (ps.filter fun x => x.p == y)
structure Best (qs : List Pr) (x : Int) : Prop where
  i : x ∈ pr qs
  b : ∀ y ∈ pr qs, cnt y qs < cnt x qs ∨ cnt y qs = cnt x qs ∧ y ≤ x
noncomputable def mxm (ps : List Pr) : Int := (ms ps).foldl (fun a m => if m > a then m else a) (-1)
noncomputable def isL (ps : List Pr) (i : Nat) : Bool := match ps[i]? with
  | some x => decide (x.m < mxm (ps.take i))
  | none => false
noncomputable def lat (ps : List Pr) : List Nat := (List.range ps.length).filter (isL ps)
end SP

end

section
set_option Elab.async false
set_option linter.all false
set_option maxRecDepth 100000
namespace SP
open PySem PySem.Spec PyProof.Rows L2 VL SM
noncomputable def dD (ks : List Int) (f : Int → PyData) : List (Key × PyData) := ks.map fun k => (.inl k, f k)
noncomputable def latD (ps : List Pr) : List PyData := (lat ps).map fun i => .int (i : Nat)
inductive JL (ps qs : List Pr) : Rho → Prop where
  | mk {a b : Sl} (ha : frB (some a) = true) (hb : frB (some b) = true) : JL ps qs [.val (.list (ps.map Pr.D)), .val (.int (mxm qs)), .own .free (tr (latD qs)), a, b]
noncomputable def rT (k : Int) (ps : List Pr) : List PyData := [.int (mn (pr (grp k ps))), .int (mx (pr (grp k ps))), .int (lots (grp k ps))]
inductive JR (ps qs : List Pr) : Rho → Prop where
  | mk {a b c d e f : Sl} (ha : frB (some a) = true) (ha' : unown a = true) (hb : frB (some b) = true) (hc : frB (some c) = true) (hd : frB (some d) = true) (he : frB (some e) = true) (hf : frB (some f) = true) :
    JR ps qs [.val (.list (ps.map Pr.D)), .own .free (.dk (toT (dD (dst (ms qs)) fun k => .tuple (rT k qs)))), a, b, c, d, e, f]
end SP

end

section
set_option Elab.async false
set_option linter.all false
set_option maxRecDepth 100000
namespace SP
open PySem PySem.Spec PyProof.Rows L2 VL SM
inductive JC (ps qs : List Pr) (L f0 : Int) : Rho → Prop where
  | mk {a b c d : Sl} (ha : unown a = true) (ha' : frB (some a) = true) (hb : frB (some b) = true) (hc : frB (some c) = true) (hc' : unown c = true) (hd : frB (some d) = true) :
    JC ps qs L f0 [.val (.list (ps.map Pr.D)), .val (.int f0), .val (.int L), a, .own .free (.dk (toT (dD (dst (pr (grp L qs))) fun y => .int (cnt y (grp L qs))))), b, c, d]
end SP

end

section
set_option Elab.async false
set_option linter.all false
set_option maxRecDepth 100000
set_option maxHeartbeats 2000000
namespace SH
open PySem PySem.Spec PyProof.Rows L2 VL SM SP
theorem two_le {l : List Int} {a b : Int} (nd : l.Nodup) (h : ∀ i ∈ l, i = a ∨ i = b) : l.length ≤ 2 := by
  match l, nd, h with
  | [], _, _ => simp
  | [_], _, _ => simp
  | [_, _], _, _ => simp
  | u :: v :: w :: r, nd, h =>
    exfalso
    have h1 := h u (by simp)
    have h2 := h v (by simp)
    have h3 := h w (by simp)
    simp only [List.nodup_cons, List.mem_cons, not_or] at nd
    obtain ⟨⟨n1, n2, _⟩, ⟨n3, _⟩, _⟩ := nd
    omega
structure DL where
  s : Int
  b : Int
  p : Int
  c : Int
  m : Int
noncomputable def DL.D (d : DL) : PyData := .tuple [.int d.s, .int d.b, .int d.p, .int d.c, .int d.m]
noncomputable def PB (N : Nat) (p : Int) : Prop := 0 ≤ p ∧ p ≤ 100000000 + 10 * (N : Int)
noncomputable def CB (c : Int) : Prop := 0 ≤ c ∧ c ≤ 1000000
theorem PB.mono {N M : Nat} {p : Int} (h : PB N p) (hm : N ≤ M) : PB M p := ⟨h.1, by have := h.2; omega⟩
structure DLOk (z : Int) (N : Nat) (d : DL) : Prop where
  s0 : 0 ≤ d.s
  s1 : d.s < z
  b0 : 0 ≤ d.b
  b1 : d.b < z
  p : PB N d.p
  c : CB d.c
structure GOk (z : Int) (N : Nat) (g : Bg) : Prop where
  wd : WdOk g
  co : CoOk g
  a0 : 0 ≤ g.a
  a1 : g.a < z
  b0 : 0 ≤ g.b
  b1 : g.b < z
  p1 : PB N g.p1
  p2 : PB N g.p2
  cl : PB N g.cl
  c1 : CB g.c1
  c2 : CB g.c2
  sg : IsSign g.sg
  lk : IsSign g.lk
  sw : IsShow g.sw
  se : IsShow g.se
  im : ∀ i ∈ g.inn, i = g.a ∨ i = g.b
  nd : g.inn.Nodup
  cm : ∀ r ∈ g.ch, r.1 = g.a ∨ r.1 = g.b
structure Inv (z s : Int) (N : Nat) (x : S) : Prop where
  hh : HeldOk x.held x.off
  hm : ∀ o ∈ x.held, 0 ≤ o.mem ∧ o.mem < z ∧ PB N o.pr ∧ 0 ≤ o.lf ∧ o.lf ≤ 90
  off : 0 ≤ x.off ∧ x.off ≤ N
  gs : ∀ g ∈ x.made, GOk z N g
  up : ∃ ps : List Pr, x.up = ps.map Pr.D ∧ ∀ q ∈ ps, PB N q.p
  dl : ∃ ds : List DL, x.dl = ds.map DL.D ∧ ∀ q ∈ ds, DLOk z N q
  lm : x.made.length ≤ N
  lu : x.up.length ≤ N
  ld : x.dl.length ≤ N
  lh : x.held.length ≤ N
section
variable {z s : Int} {x y x' : S} {p p' : Past} {md : Md} {n N : Nat} {g : Bg} {rest : Rho} {t u : Tr}
theorem GOk.mono {M : Nat} (G : GOk z N g) (h : N ≤ M) : GOk z M g := ⟨G.wd, G.co, G.a0, G.a1, G.b0, G.b1, G.p1.mono h, G.p2.mono h, G.cl.mono h, G.c1, G.c2, G.sg, G.lk, G.sw, G.se, G.im, G.nd, G.cm⟩
theorem Inv.mono {M : Nat} (I : Inv z s N x) (h : N ≤ M) : Inv z s M x := ⟨I.hh, fun o ho => ⟨(I.hm o ho).1, (I.hm o ho).2.1, (I.hm o ho).2.2.1.mono h, (I.hm o ho).2.2.2⟩, ⟨I.off.1, by have := I.off.2; omega⟩, fun g hg => (I.gs g hg).mono h, I.up.imp fun ps q => ⟨q.1, fun r hr => (q.2 r hr).mono h⟩, I.dl.imp fun ds q => ⟨q.1, fun r hr => ⟨(q.2 r hr).s0, (q.2 r hr).s1, (q.2 r hr).b0, (q.2 r hr).b1, (q.2 r hr).p.mono h, (q.2 r hr).c⟩⟩, Nat.le_trans I.lm h, Nat.le_trans I.lu h, Nat.le_trans I.ld h, Nat.le_trans I.lh h⟩
theorem GOk.word (G : GOk z N g) {w : Str} (hw : w = s_x ∨ w = s_done ∨ w = s_void) : GOk z N { g with wd := w } := ⟨⟨hw, G.wd.l⟩, ⟨G.co.nd, G.co.nh, G.co.eq, G.co.len, G.co.lnh⟩, G.a0, G.a1, G.b0, G.b1, G.p1, G.p2, G.cl, G.c1, G.c2, G.sg, G.lk, G.sw, G.se, G.im, G.nd, G.cm⟩
theorem Inv.set (I : Inv z s N x) (G : GOk z N g) : Inv z s N { x with made := x.made.set n g } := by
  refine ⟨I.hh, I.hm, I.off, fun g' h => ?_, I.up, I.dl, ?_, I.lu, I.ld, I.lh⟩
  · rcases List.mem_or_eq_of_mem_set h with h | rfl
    · exact I.gs g' h
    · exact G
  · show (x.made.set n g).length ≤ N
    rw [List.length_set]
    exact I.lm
theorem Inv.done (I : Inv z s N x) (G : GOk z N g) {pr ct : Int} (hp : PB N pr) (hc : CB ct) : Inv z s (N + 1) (done1 x n g pr ct) := by
  have J := (I.set (n := n) (G.word (w := s_done) (.inr (.inl rfl)))).mono (Nat.le_succ N)
  refine ⟨J.hh, J.hm, J.off, J.gs, ?_, ?_, J.lm, ?_, ?_, J.lh⟩
  · obtain ⟨ps, e, h⟩ := I.up
    refine ⟨ps ++ [⟨g.mo, pr, ct⟩], ?_, fun q hq => ?_⟩
    · show x.up ++ [_] = _
      rw [e, List.map_append]
      rfl
    · rcases List.mem_append.mp hq with hq | hq
      · exact (h q hq).mono (Nat.le_succ N)
      · rw [List.mem_singleton.mp hq]; exact hp.mono (Nat.le_succ N)
  · obtain ⟨ds, e, h⟩ := I.dl
    refine ⟨ds ++ [⟨if g.u1 = true then g.b else g.a, if g.u1 = true then g.a else g.b, pr, ct, g.mo⟩], ?_, fun q hq => ?_⟩
    · show x.dl ++ [_] = _
      rw [e, List.map_append]
      rfl
    · rcases List.mem_append.mp hq with hq | hq
      · have := h q hq
        exact ⟨this.s0, this.s1, this.b0, this.b1, this.p.mono (Nat.le_succ N), this.c⟩
      · rw [List.mem_singleton.mp hq]
        refine ⟨?_, ?_, ?_, ?_, hp.mono (Nat.le_succ N), hc⟩ <;> simp only <;> split <;> first | exact G.a0 | exact G.a1 | exact G.b0 | exact G.b1
  · show (x.up ++ [_]).length ≤ N + 1
    have := I.lu
    simp; omega
  · show (x.dl ++ [_]).length ≤ N + 1
    have := I.ld
    simp; omega
theorem Inv.hold (I : Inv z s N x) (hN : N < 9000) {o : Of} (ho : o.Ok) (hn : o.n = x.off) (h0 : 0 ≤ o.mem) (h1 : o.mem < z) (hp : PB (N + 1) o.pr) (hl0 : 0 ≤ o.lf ∧ o.lf ≤ 90) : Inv z s (N + 1) (holdS x o) := by
  have J := I.mono (Nat.le_succ N)
  have hl : (after o x.held).length ≤ N + 1 := by
    unfold after
    have := List.length_filter_le (fun e => !mine o.mem o.a e) x.held
    have := I.lh
    simp; omega
  have mem : ∀ e ∈ after o x.held, e ∈ x.held ∨ e = o := fun e he => by
    unfold after at he
    rcases List.mem_append.mp he with he | he
    · exact .inl (List.mem_filter.mp he).1
    · exact .inr (List.mem_singleton.mp he)
  refine ⟨⟨?_, fun e he => ?_, fun e he => ?_, by show (after o x.held).length < _; omega⟩, fun e he => ?_, ?_, J.gs, J.up, J.dl, Nat.le_succ_of_le I.lm, Nat.le_succ_of_le I.lu, Nat.le_succ_of_le I.ld, hl⟩
  · show (after o x.held).Pairwise _
    unfold after
    refine List.pairwise_append.mpr ⟨I.hh.up.filter _, List.pairwise_singleton .., fun a ha b hb => ?_⟩
    rw [List.mem_singleton.mp hb, hn]
    exact (I.hh.lt a (List.mem_filter.mp ha).1).2
  · show 0 ≤ e.n ∧ e.n < o.n + 1
    rcases mem e he with h | rfl
    · have := I.hh.lt e h; omega
    · have := I.off.1; omega
  · rcases mem e he with h | rfl
    · exact I.hh.ok e h
    · exact ho
  · rcases mem e he with h | rfl
    · exact J.hm e h
    · exact ⟨h0, h1, hp, hl0⟩
  · show 0 ≤ o.n + 1 ∧ o.n + 1 ≤ ((N + 1 : Nat) : Int)
    have := I.off; omega
theorem heldT_mem {o e : Of} {k : Int} {os : List Of} (h : e ∈ heldT o k os) : e ∈ os ∨ e = lessN o k := by
  unfold heldT at h
  split at h
  · exact .inl (List.mem_filter.mp h).1
  · obtain ⟨q, hq, rfl⟩ := List.mem_map.mp h
    split
    · exact .inr rfl
    · exact .inl hq
theorem Inv.take (I : Inv z s N x) (hN : N < 9000) {o : Of} {i c : Int} {a2 : Str} {b2 c2 : Int} {d2 : Str} {sw se : PyData} (ho : o ∈ x.held) (i0 : 0 ≤ i) (i1 : i < z) (hs : SgOk a2 b2 c2 d2) (h2 : IsShow sw) (h3 : IsShow se) (c0 : PB N c) (hm : PB (N + 1) (meantZ c b2)) (q2 : CB (lotsD sw)) (q3 : CB (lotsD se)) : Inv z s (N + 1) (tkS x o i c a2 b2 (sgD a2 b2 c2 d2) sw se) := by
  have hl : (heldT o (cntT o se) x.held).length ≤ N := by
    unfold heldT
    split
    · exact Nat.le_trans (List.length_filter_le ..) I.lh
    · rw [List.length_map]; exact I.lh
  have J := I.mono (Nat.le_succ N)
  have io := J.hm o ho
  have hcn : CB (cntT o se) ∧ cntT o se ≤ o.lf := by
    unfold cntT CB
    have := io.2.2.2
    have := q3.1
    have := q3.2
    split <;> omega
  refine ⟨⟨?_, fun e he => ?_, fun e he => ?_, by show (heldT o (cntT o se) x.held).length < _; omega⟩, fun e he => ?_, J.off, fun g hg => ?_, J.up, J.dl, ?_, Nat.le_succ_of_le I.lu, Nat.le_succ_of_le I.ld, Nat.le_succ_of_le hl⟩
  · show (heldT o (cntT o se) x.held).Pairwise _
    unfold heldT
    split
    · exact I.hh.up.filter _
    · rw [List.pairwise_map]
      refine I.hh.up.imp ?_
      intro a b h
      have e : ∀ q : Of, (if q.n = o.n then lessN o (cntT o se) else q).n = q.n := fun q => by
        split
        · rename_i h; exact h.symm
        · rfl
      rw [e, e]
      exact h
  · rcases heldT_mem he with h | rfl
    · exact I.hh.lt e h
    · exact I.hh.lt o ho
  · rcases heldT_mem he with h | rfl
    · exact I.hh.ok e h
    · exact I.hh.ok o ho
  · rcases heldT_mem he with h | rfl
    · exact J.hm e h
    · refine ⟨io.1, io.2.1, io.2.2.1, ?_⟩
      show 0 ≤ o.lf - cntT o se ∧ o.lf - cntT o se ≤ 90
      have := io.2.2.2
      have := hcn.1.1
      have := hcn.2
      omega
  · rcases List.mem_append.mp hg with hg | hg
    · exact J.gs g hg
    · rw [List.mem_singleton.mp hg]
      exact ⟨⟨.inl rfl, by show 0 ≤ 2; decide⟩, ⟨.nil, .nil, fun r => Iff.rfl, by show 0 ≤ 100; decide, by show 0 ≤ 99; decide⟩, io.1, io.2.1, i0, i1, io.2.2.1, hm, c0.mono (Nat.le_succ N), hcn.1, q2, Of.isSign (I.hh.ok o ho), .mk hs.ha hs.b0 hs.b9 hs.c1 hs.c9 hs.hd, h2, h3, fun _ h => (nomatch h), .nil, fun _ h => (nomatch h)⟩
  · show (x.made ++ [_]).length ≤ N + 1
    have := I.lm
    simp; omega
end
end SH

end

section
set_option Elab.async false
set_option linter.all false
set_option maxRecDepth 100000
set_option maxHeartbeats 2000000
namespace SH
open PySem PySem.Spec PyProof.Rows L2 VL SM SP
structure Good (d : PyData) : Prop where
  s : Sh 5 d
  b : ∃ e k, d = .tuple [e, .str k] ∧ isiD .bool e = some false
section
variable {z s : Int} {x y x' : S} {p p' : Past} {md : Md} {n N : Nat} {g : Bg} {rest : Rho} {t u : Tr} {c : Cl}
end
end SH

end

section
set_option Elab.async false
set_option linter.all false
set_option maxRecDepth 100000
set_option maxHeartbeats 2000000
namespace SH
open PySem PySem.Spec PyProof.Rows L2 VL SM SP
section
variable {z s : Int} {x y x' : S} {p p' : Past} {md : Md} {n N : Nat} {g : Bg} {rest : Rho} {t u : Tr} {c : Cl}
theorem GOk.inn (G : GOk z N g) {i : Int} (hi : i = g.a ∨ i = g.b) (hn : i ∉ g.inn) : GOk z N { g with inn := g.inn ++ [i] } := by
  have nd : (g.inn ++ [i]).Nodup := by
    rw [List.nodup_append]
    refine ⟨G.nd, by simp, fun a ha b hb e => hn ?_⟩
    rw [← List.mem_singleton.mp hb, ← e]
    exact ha
  have im : ∀ k ∈ g.inn ++ [i], k = g.a ∨ k = g.b := fun k hk => by
    rcases List.mem_append.mp hk with hk | hk
    · exact G.im k hk
    · rw [List.mem_singleton.mp hk]; exact hi
  exact ⟨⟨G.wd.w, two_le nd im⟩, ⟨G.co.nd, G.co.nh, G.co.eq, G.co.len, G.co.lnh⟩, G.a0, G.a1, G.b0, G.b1, G.p1, G.p2, G.cl, G.c1, G.c2, G.sg, G.lk, G.sw, G.se, im, nd, G.cm⟩
end
end SH

end

section
set_option Elab.async false
set_option linter.all false
set_option maxRecDepth 100000
namespace ST
open PySem PySem.Spec PyProof.Rows L2 VL SM
structure Dl where
  s : Int
  b : Int
  p : Int
  c : Int
  m : Int
noncomputable def Dl.D (d : Dl) : PyData := .tuple [.int d.s, .int d.b, .int d.p, .int d.c, .int d.m]
structure DlOk (n : Nat) (d : Dl) : Prop where
  s0 : 0 ≤ d.s
  s1 : d.s < n
  b0 : 0 ≤ d.b
  b1 : d.b < n
  p0 : 0 ≤ d.p
  p1 : d.p ≤ 1000000000
  c0 : 0 ≤ d.c
  c1 : d.c ≤ 1000000
noncomputable def mem (n : Nat) (f : Int → Int) : List Int := (List.range n).map fun i => f (i : Nat)
noncomputable def iL (xs : List Int) : List PyData := xs.map .int
inductive JS (n : Nat) (ds : List Dl) (f g : Int → Int) : Rho → Prop where
  | mk {a b c d e : Sl} (ha : frB (some a) = true) (hb : frB (some b) = true) (hc : frB (some c) = true) (hd : frB (some d) = true) (he : frB (some e) = true) :
    JS n ds f g [.val (.int (n : Nat)), .val (.list (ds.map Dl.D)), .own .free (tr (iL (mem n f))), .own .free (tr (iL (mem n g))), a, b, c, d, e]
end ST

end

section
set_option Elab.async false
set_option linter.all false
set_option maxRecDepth 100000
set_option maxHeartbeats 2000000
namespace SH
open PySem PySem.Spec PyProof.Rows L2 VL SM SP
section
variable {z s : Int} {x y x' : S} {p p' : Past} {md : Md} {n N : Nat} {g : Bg} {rest : Rho} {t u : Tr} {a0 : Sl}
end
end SH

end

section
set_option Elab.async false
set_option linter.all false
set_option maxRecDepth 100000
set_option maxHeartbeats 2000000
namespace SH
open PySem PySem.Spec PyProof.Rows L2 VL SM SP
section
variable {z s : Int} {x y x' : S} {p p' : Past} {md : Md} {n N : Nat} {g : Bg} {rest : Rho} {t u : Tr} {a0 : Sl}
end
end SH

end

section
set_option Elab.async false
set_option linter.all false
set_option maxRecDepth 100000
set_option maxHeartbeats 2000000
namespace SH
open PySem PySem.Spec PyProof.Rows L2 VL SM SP
structure Bag where
  c : Int
  s : Int
noncomputable def bgT (b : Bag) : Tr := .lst [.dat (.int b.c), .dat (.int b.s)]
noncomputable def BgOk (b : Bag) : Prop := BagT (bgT b)
theorem bg_of {t : Tr} (h : BagT t) : ∃ b, t = bgT b ∧ BgOk b := by
  have h' := h
  obtain ⟨c0, s0, s1⟩ := h'
  exact ⟨⟨_, _⟩, rfl, h⟩
section
variable {b : Bag} {md : Md}
theorem cv_bg {i : Nat} {ρ : Rho} : VR.cvS i ρ (some (.own md (bgT b))) = some (.ok (.o i) ρ) := rfl
theorem e_tk {n : Int} (hb : BgOk b) (h0 : 0 < n) (hl : n ≤ 1000000000) : ∃ v b', BgOk b' ∧ 0 ≤ v ∧ v < n ∧ fTake [.own .pin (bgT b), .val (.int n)] = some (.ret (.dat (.int v)), [.own .pin (bgT b'), .val (.int n)]) := by
  obtain ⟨t, outs, e, v, b', h1, h2, h3, rfl, rfl⟩ := take_ok (m := .pin) rfl hb h0 (lt_lim (by omega) (by omega)) (Q := fun t outs => ∃ v b', BgOk b' ∧ 0 ≤ v ∧ v < n ∧ t = .dat (.int v) ∧ outs = [.own .pin (bgT b'), .val (.int n)]) (fun r t' r0 r1 ht => by
    obtain ⟨b', rfl, h'⟩ := bg_of ht
    exact ⟨r, b', h', r0, r1, rfl, rfl⟩)
  exact ⟨v, b', h1, h2, h3, e⟩
theorem e_sg (hb : BgOk b) : ∃ d b', BgOk b' ∧ IsSign d ∧ fSign [.own .pin (bgT b)] = some (.ret (.dat d), [.own .pin (bgT b')]) := by
  obtain ⟨t, outs, e, v, b', h1, h2, rfl, rfl⟩ := sign_ok (m := .pin) rfl hb (Q := fun t outs => ∃ d b', BgOk b' ∧ IsSign d ∧ t = .dat d ∧ outs = [.own .pin (bgT b')]) (fun d t' hd ht => by
    obtain ⟨b', rfl, h'⟩ := bg_of ht
    exact ⟨d, b', h', hd, rfl, rfl⟩)
  exact ⟨v, b', h1, h2, e⟩
end
section
variable {b : Bag} {md : Md}
noncomputable def five (v : Int) (x0 x1 x2 x3 x4 : PyData) : PyData := if v = 0 then x0 else if v = 1 then x1 else if v = 2 then x2 else if v = 3 then x3 else x4
theorem sub5 {x0 x1 x2 x3 x4 : PyData} {v : Int} (h0 : 0 ≤ v) (h5 : v < 5) : subD (.list [x0, x1, x2, x3, x4]) (.int v) = some (five v x0 x1 x2 x3 x4) := by
  have : v = 0 ∨ v = 1 ∨ v = 2 ∨ v = 3 ∨ v = 4 := by omega
  rcases this with rfl | rfl | rfl | rfl | rfl <;> rfl
end
end SH

end

section
set_option Elab.async false
set_option linter.all false
set_option maxRecDepth 100000
set_option maxHeartbeats 2000000
namespace SH
open PySem PySem.Spec PyProof.Rows L2 VL SM SP
theorem sub_L {L : List PyData} {v : Int} (h0 : 0 ≤ v) (h1 : v < L.length) : ∃ d, d ∈ L ∧ subD (.list L) (.int v) = some d := by
  obtain ⟨n, rfl⟩ : ∃ n : Nat, v = n := ⟨v.toNat, by omega⟩
  have hn : n < L.length := by omega
  refine ⟨L[n], List.getElem_mem hn, ?_⟩
  show atI L (n : Int) = _
  unfold atI
  rw [VR.ixN_nat hn]
  exact List.getElem?_eq_getElem hn
section
variable {z s : Int} {x y x' : S} {p p' : Past} {md : Md} {n N : Nat} {g : Bg} {rest : Rho} {t u : Tr} {b : Bag}
end
end SH

end

section
set_option Elab.async false
set_option linter.all false
set_option maxRecDepth 100000
set_option maxHeartbeats 2000000
namespace SH
open PySem PySem.Spec PyProof.Rows L2 VL SM SP
theorem run_rt {n : Nat} {g : MS} {args ρ' : Rho} {t : Tr} (h : g (entry n args) = some (.rt t ρ')) : runF n g args = some (.ret t, ρ'.take args.length) := by
  unfold runF
  rw [h]
section
variable {z s : Int} {x y x' : S} {p p' : Past} {md : Md} {n N : Nat} {g : Bg} {rest : Rho} {t u : Tr} {b : Bag}
end
end SH

end

section
set_option Elab.async false
set_option linter.all false
set_option maxRecDepth 100000
set_option maxHeartbeats 2000000
namespace SH
open PySem PySem.Spec PyProof.Rows L2 VL SM SP
section
variable {z s : Int} {x y x' : S} {p p' : Past} {md : Md} {n N : Nat} {g : Bg} {rest : Rho} {t u : Tr} {b : Bag}
end
end SH

end

section
set_option Elab.async false
set_option linter.all false
set_option maxRecDepth 100000
set_option maxHeartbeats 2000000
namespace SH
open PySem PySem.Spec PyProof.Rows L2 VL SM SP
noncomputable def x0 : S := ⟨0, true, 0, [], [], [], []⟩
section
variable {z s : Int} {x y x' : S} {p p' : Past} {md : Md} {n N : Nat} {g : Bg} {rest : Rho} {t u : Tr} {b : Bag} {c : Cl} {d : PyData}
theorem e_bag {ns : List Int} {i : Nat} (hi : i ≤ 40) : ∃ b outs, BgOk b ∧ fBag [.val (scrD ns), .val (.int (i : Nat))] = some (.ret (bgT b), outs) := by
  obtain ⟨t, outs, e, h⟩ := bag_ok (ns := ns) hi (Q := fun t _ => BagT t) (fun t h => h)
  obtain ⟨b, rfl, hb⟩ := bg_of h
  exact ⟨b, outs, hb, e⟩
theorem if_f {c : M Bool} {g : MS} {ρ : Rho} (e : c ρ = some (.ok false ρ)) : sIf c g sNil ρ = some (.nx ρ) := by simp! only [setSl, List.replicate, pinS, Md.unb, VR.ap_fld1, VR.ap_pFld, VR.ap_pKey, VR.ap_keyT1, e]
end
end SH

end

section
set_option Elab.async false
set_option linter.all false
set_option maxRecDepth 100000
namespace SP
open PySem PySem.Spec PyProof.Rows L2 VL SM
inductive JH {α : Type} (D : α → PyData) (ds : List α) (es : List α) : Rho → Prop where
  | mk {t : Tr} {a : Sl} (ht : BagT t) (ha : frB (some a) = true) : JH D ds es [.own .pin t, .val (.list (ds.map D)), .own .free (tr (es.map D)), a]
end SP

end

section
set_option Elab.async false
set_option linter.all false
set_option maxRecDepth 100000
set_option maxHeartbeats 2000000
namespace SH
open PySem PySem.Spec PyProof.Rows L2 VL SM SP
noncomputable def FrL (vs : List Sl) : Prop := ∀ v ∈ vs, frB (some v) = true
theorem FrL.nil : FrL [] := fun _ h => nomatch h
theorem FrL.cons {v : Sl} {vs : List Sl} (h : frB (some v) = true) (t : FrL vs) : FrL (v :: vs) := fun w hw => by
  rcases List.mem_cons.mp hw with rfl | hw
  · exact h
  · exact t w hw
theorem FrL.hd {v : Sl} {vs : List Sl} (h : FrL (v :: vs)) : frB (some v) = true := h v (List.mem_cons_self ..)
theorem FrL.tl {v : Sl} {vs : List Sl} (h : FrL (v :: vs)) : FrL vs := fun w hw => h w (List.mem_cons_of_mem _ hw)
theorem FrL.rep {n : Nat} : FrL (List.replicate n .no) := fun v hv => by rw [(List.mem_replicate.mp hv).2]; rfl
theorem for_ok {fi : M (List PyData)} {g : MG} {b : MS} {ρ ρ1 : Rho} {ds : List PyData} {r : Option Out} (h : fi ρ = some (.ok ds ρ1)) (l : loopF g b ds ρ1 = r) : sFor fi g b ρ = r := by
  unfold sFor sE
  rw [h]
  exact l
theorem loop_cons {g : MG} {b : MS} {d : PyData} {ds : List PyData} {ρ ρ1 ρ2 : Rho} (h : g d ρ = some ρ1) (e : b ρ1 = some (.nx ρ2)) : loopF g b (d :: ds) ρ = loopF g b ds ρ2 := by
  show (match g d ρ with
    | none => none
    | some ρ1 => match b ρ1 with
      | some (.nx ρ2) => loopF g b ds ρ2
      | some (.ct ρ2) => loopF g b ds ρ2
      | some (.bk ρ2) => some (.nx ρ2)
      | o => o) = _
  rw [h]
  show (match b ρ1 with
      | some (.nx ρ2) => loopF g b ds ρ2
      | some (.ct ρ2) => loopF g b ds ρ2
      | some (.bk ρ2) => some (.nx ρ2)
      | o => o) = _
  rw [e]
theorem cell_range {ns : List Int} {c : Int} {m : Nat} {vs : List Sl} (em : (1 + (if c < ((ns.length : Nat) : Int) then c else ((ns.length : Nat) : Int)) : Int) = (m : Int)) (hm : m < 100000) : iRange1 (aCons (cBin addD (cD (.int 1)) (cCall min2D (aCons (cCall lenD (aCons (cVar 0) aNil)) (aCons (cD (.int c)) aNil)))) aNil) (.val (scrD ns) :: vs) = some (.ok ((List.range' 0 m).map fun k => .int (0 + (k : Nat))) (.val (scrD ns) :: vs)) := by
  have ls : lenD [scrD ns] = some (.int (ns.length : Nat)) := by
    unfold scrD
    show some (PyData.int (List.length _)) = _
    rw [List.length_map]
  rw [← List.range_eq_range']
  refine rng1 ?_ hm
  simp! only [setSl, List.replicate, pinS, Md.unb, VR.ap_fld1, VR.ap_pFld, VR.ap_pKey, VR.ap_keyT1, ls, min2, em]
theorem rng2 {f : M (List Rv)} {ρ ρ1 : Rho} {n : Nat} (h : f ρ = some (.ok [.d (.int (n : Nat))] ρ1)) (hn : n < 100000) : iRange1 f ρ = some (.ok ((List.range n).map fun k => .int (0 + (k : Nat))) ρ1) := by
  unfold iRange1 bnd
  rw [h]
  show (if -(2 ^ 62) ≤ ((n : Nat) : Int) ∧ ((n : Nat) : Int) < 2 ^ 62 then some (Er.ok (rangeD 0 ((n : Nat) : Int).toNat) _) else none) = _
  rw [if_pos (by omega)]
  rfl
end SH

end

section
set_option Elab.async false
set_option linter.all false
set_option maxRecDepth 100000
set_option maxHeartbeats 2000000
namespace SH
open PySem PySem.Spec PyProof.Rows L2 VL SM SP
theorem r_set {i : Nat} {f : M Rv} {ρ ρ1 : Rho} {d : PyData} (h : f ρ = some (.ok (.d d) ρ1)) (hs : frB (ρ1[i]?) = true) : sSet i f ρ = some (.nx (ρ1.set i (.val d))) := by
  simp! only [List.replicate, pinS, Md.unb, VR.ap_fld1, VR.ap_pFld, VR.ap_pKey, VR.ap_keyT1, h, setSl_f, hs]
theorem r_cmp {g : PyData → PyData → Option Bool} {f1 f2 : M Rv} {ρ ρ1 ρ2 : Rho} {d e : PyData} {r : Bool} (h1 : f1 ρ = some (.ok (.d d) ρ1)) (h2 : f2 ρ1 = some (.ok (.d e) ρ2)) (h : g d e = some r) : cCmp g f1 f2 ρ = some (.ok r ρ2) := by
  simp! only [setSl, List.replicate, pinS, Md.unb, VR.ap_fld1, VR.ap_pFld, VR.ap_pKey, VR.ap_keyT1, h1, h2, h]
theorem r_bin {g : PyData → PyData → Option PyData} {f1 f2 : M Rv} {ρ ρ1 ρ2 : Rho} {d e r : PyData} (h1 : f1 ρ = some (.ok (.d d) ρ1)) (h2 : f2 ρ1 = some (.ok (.d e) ρ2)) (h : g d e = some r) : cBin g f1 f2 ρ = some (.ok (.d r) ρ2) := by
  simp! only [setSl, List.replicate, pinS, Md.unb, VR.ap_fld1, VR.ap_pFld, VR.ap_pKey, VR.ap_keyT1, h1, h2, h]
theorem r_call1 {g : List PyData → Option PyData} {f : M Rv} {ρ ρ1 : Rho} {d r : PyData} (h1 : f ρ = some (.ok (.d d) ρ1)) (h : g [d] = some r) : cCall g (aCons f aNil) ρ = some (.ok (.d r) ρ1) := by
  simp! only [setSl, List.replicate, pinS, Md.unb, VR.ap_fld1, VR.ap_pFld, VR.ap_pKey, VR.ap_keyT1, h1, h]
theorem r_orFF {c1 c2 : M Bool} {ρ ρ1 ρ2 : Rho} (h1 : c1 ρ = some (.ok false ρ1)) (h2 : c2 ρ1 = some (.ok false ρ2)) : cOr c1 c2 ρ = some (.ok false ρ2) := by
  simp! only [setSl, List.replicate, pinS, Md.unb, VR.ap_fld1, VR.ap_pFld, VR.ap_pKey, VR.ap_keyT1, h1, h2]
theorem r_andF {c1 c2 : M Bool} {ρ ρ1 : Rho} (h1 : c1 ρ = some (.ok false ρ1)) : cAnd c1 c2 ρ = some (.ok false ρ1) := by
  simp! only [setSl, List.replicate, pinS, Md.unb, VR.ap_fld1, VR.ap_pFld, VR.ap_pKey, VR.ap_keyT1, h1]
theorem r_andT {c1 c2 : M Bool} {ρ ρ1 ρ2 : Rho} {r : Bool} (h1 : c1 ρ = some (.ok true ρ1)) (h2 : c2 ρ1 = some (.ok r ρ2)) : cAnd c1 c2 ρ = some (.ok r ρ2) := by
  simp! only [setSl, List.replicate, pinS, Md.unb, VR.ap_fld1, VR.ap_pFld, VR.ap_pKey, VR.ap_keyT1, h1, h2]
theorem r_ifF {c : M Bool} {g h : MS} {ρ ρ1 : Rho} (e : c ρ = some (.ok false ρ1)) : sIf c g h ρ = h ρ1 := by
  simp! only [setSl, List.replicate, pinS, Md.unb, VR.ap_fld1, VR.ap_pFld, VR.ap_pKey, VR.ap_keyT1, e]
theorem r_ifT {c : M Bool} {g h : MS} {ρ ρ1 : Rho} (e : c ρ = some (.ok true ρ1)) : sIf c g h ρ = g ρ1 := by
  simp! only [setSl, List.replicate, pinS, Md.unb, VR.ap_fld1, VR.ap_pFld, VR.ap_pKey, VR.ap_keyT1, e]
theorem r_var {i : Nat} {ρ : Rho} {d : PyData} (h : ρ[i]? = some (.val d)) : cVar i ρ = some (.ok (.d d) ρ) := by
  rw [VR.ap_cVar, h]
  rfl
theorem r_seq {i : Nat} {ρ : Rho} {ds : List PyData} (h : ρ[i]? = some (.val (.list ds))) : iSeq (cVar i) ρ = some (.ok ds ρ) := by
  unfold iSeq bnd
  rw [r_var h]
  rfl
theorem r_frz {f : M Tr} {ρ ρ1 : Rho} {t : Tr} {d : PyData} (h : f ρ = some (.ok t ρ1)) (td : t.toD = some d) : cFrz f ρ = some (.ok (.d d) ρ1) := by
  unfold cFrz bnd
  rw [h]
  show (match t.toD with
    | some d => some (Er.ok (Rv.d d) ρ1)
    | none => none) = _
  rw [td]
theorem r_rng {j n : Nat} {ρ : Rho} (h : ρ[j]? = some (.val (.int (n : Nat)))) (hn : n < 100000) : iRange1 (aCons (cVar j) aNil) ρ = some (.ok ((List.range n).map fun i => .int (0 + (i : Nat))) ρ) := by
  refine rng2 ?_ hn
  have : cVar j ρ = some (.ok (.d (.int (n : Nat))) ρ) := r_var h
  simp! only [setSl, List.replicate, pinS, Md.unb, VR.ap_fld1, VR.ap_pFld, VR.ap_pKey, VR.ap_keyT1, -VR.ap_cVar, this]
theorem r_comp {α : Type} {D : α → PyData} {ds : List α} {v : Nat} {fi : M (List PyData)} {te : M Rv} {ρ : Rho} {s : Sl} (f : α → PyData) (hi : fi ρ = some (.ok (ds.map D) ρ)) (hl : ds.length ≤ 16777216) (hv : ρ[v]? = some s) (hs : unown s = true)
    (he : ∀ d ∈ ds, te (ρ.set v (.val (D d))) = some (.ok (.d (f d)) (ρ.set v (.val (D d))))) : nComp fi [v] (gN v) tYesM te ρ = some (.ok (.lst ((ds.map f).map .dat)) ρ) := by
  have c := comp_eq (D := D) (ds := ds) (fi := fi) (v := v) (tt := tYesM) (te := te) (ρ := ρ) (s := s) (fun _ => true) f hi hl hv hs (fun _ _ => rfl) (fun d hd _ => he d hd)
  rw [List.filter_eq_self.mpr fun _ _ => rfl] at c
  exact c
theorem r_compD {α : Type} {D : α → PyData} {ds : List α} {v : Nat} {fi : M (List PyData)} {te : M Rv} {ρ : Rho} {s : Sl} (f : α → PyData) (hi : fi ρ = some (.ok (ds.map D) ρ)) (hl : ds.length ≤ 16777216) (hv : ρ[v]? = some s) (hs : unown s = true)
    (he : ∀ d ∈ ds, te (ρ.set v (.val (D d))) = some (.ok (.d (f d)) (ρ.set v (.val (D d))))) : cFrz (nComp fi [v] (gN v) tYesM te) ρ = some (.ok (.d (.list (ds.map f))) ρ) := r_frz (r_comp f hi hl hv hs he) toD_ds
theorem r_compT {α : Type} {D : α → PyData} {ds : List α} {v : Nat} {fi : M (List PyData)} {tt : M Bool} {te : M Rv} {ρ : Rho} {s : Sl} (p : α → Bool) (f : α → PyData) (hi : fi ρ = some (.ok (ds.map D) ρ)) (hl : ds.length ≤ 16777216) (hv : ρ[v]? = some s) (hs : unown s = true)
    (ht : ∀ d ∈ ds, tt (ρ.set v (.val (D d))) = some (.ok (p d) (ρ.set v (.val (D d))))) (he : ∀ d ∈ ds, p d = true → te (ρ.set v (.val (D d))) = some (.ok (.d (f d)) (ρ.set v (.val (D d))))) : cFrz (nComp fi [v] (gN v) tt te) ρ = some (.ok (.d (.list ((ds.filter p).map f))) ρ) := r_frz (comp_eq p f hi hl hv hs ht he) toD_ds
theorem r_asg {G : MG} {f : M Rv} {ρ ρ1 ρ2 : Rho} {d : PyData} (h : f ρ = some (.ok (.d d) ρ1)) (g : G d ρ1 = some ρ2) : sAsg G f ρ = some (.nx ρ2) := by
  simp! only [setSl, List.replicate, pinS, Md.unb, VR.ap_fld1, VR.ap_pFld, VR.ap_pKey, VR.ap_keyT1, h, g]
theorem r_gT2 {i j : Nat} {a b : PyData} {ρ : Rho} (hi : frB (ρ[i]?) = true) (hj : frB ((ρ.set i (.val a))[j]?) = true) : VL.gT 2 (gsC (gN i) (gsC (gN j) gsN)) (.tuple [a, b]) ρ = some ((ρ.set i (.val a)).set j (.val b)) := by
  have h1 : gN i a ρ = some (ρ.set i (.val a)) := setSl_f hi
  have h2 : gN j b (ρ.set i (.val a)) = some ((ρ.set i (.val a)).set j (.val b)) := setSl_f hj
  show (if (2 : Nat) = 2 then gsC (gN i) (gsC (gN j) gsN) [a, b] ρ else none) = _
  rw [if_pos rfl]
  simp only [gsC, h1, h2, gsN]
theorem own_der {i : Nat} {ρ : Rho} {m : Md} {ds : List PyData} (h : ρ[i]? = some (.own m (.lst (ds.map .dat)))) : cVar i ρ = some (.ok (.o i) ρ) ∧ derS ρ (.o i) = some (.list ds) ∧ der ρ (.o i) = some (.list ds) := by
  refine ⟨by rw [VR.ap_cVar, h]; rfl, ?_, ?_⟩
  · show (match ρ[i]? with
      | some (.own _ (.lst ts)) => (VL.flat ts).map PyData.list
      | _ => none) = _
    rw [h]
    show (VL.flat (ds.map .dat)).map PyData.list = _
    rw [flat_dat]
    rfl
  · show (match ρ[i]? with
      | some (.own _ t) => t.toD
      | _ => none) = _
    rw [h]
    show Tr.toD (.lst (ds.map .dat)) = _
    exact toD_ds
theorem r_loop {α : Type} {D : α → PyData} {g : MG} {b : MS} (J : List α → Rho → Prop) : ∀ (ds : List α) (dn : List α) (ρ : Rho), J dn ρ → (∀ dn d ρ, d ∈ ds → J dn ρ → ∃ ρ1 ρ2, g (D d) ρ = some ρ1 ∧ b ρ1 = some (.nx ρ2) ∧ J (dn ++ [d]) ρ2) → ∃ ρ', loopF g b (ds.map D) ρ = some (.nx ρ') ∧ J (dn ++ ds) ρ'
  | [], dn, ρ, h, _ => ⟨ρ, rfl, by rw [List.append_nil]; exact h⟩
  | d :: ds, dn, ρ, h, st => by
    obtain ⟨ρ1, ρ2, e1, e2, h2⟩ := st dn d ρ List.mem_cons_self h
    obtain ⟨ρ', e3, h3⟩ := r_loop J ds (dn ++ [d]) ρ2 h2 fun dn d ρ hd => st dn d ρ (List.mem_cons_of_mem _ hd)
    refine ⟨ρ', ?_, by rw [List.append_assoc] at h3; exact h3⟩
    rw [List.map_cons, loop_cons e1 e2]
    exact e3
theorem r_for {α : Type} {D : α → PyData} {fi : M (List PyData)} {g : MG} {b : MS} {ρ ρ0 : Rho} {ds : List α} (J : List α → Rho → Prop) (hi : fi ρ = some (.ok (ds.map D) ρ0)) (h : J [] ρ0) (st : ∀ dn d ρ, d ∈ ds → J dn ρ → ∃ ρ1 ρ2, g (D d) ρ = some ρ1 ∧ b ρ1 = some (.nx ρ2) ∧ J (dn ++ [d]) ρ2) : ∃ ρ', sFor fi g b ρ = some (.nx ρ') ∧ J ds ρ' := by
  obtain ⟨ρ', e, h'⟩ := r_loop (D := D) J ds [] ρ0 h st
  exact ⟨ρ', for_ok hi e, h'⟩
end SH

end

section
set_option Elab.async false
set_option linter.all false
set_option maxRecDepth 100000
namespace VL
open PySem PySem.Spec PyProof.Rows L2
section
variable {X : Cx} {T T1 T2 T3 T4 T5 : List Nat} {W : WV} {K : Fg}
variable {fa fb : M Rv} {a b : Expr} {pos : Pos}
end
section
variable {X : Cx} {T T1 T2 T3 T4 T5 : List Nat} {W : WV} {K : Fg} {o i e : Expr} {pos tpos : Pos} {fp1 : M (Nat × List Nat)} {fi fe : M Rv}
end
section
variable {X : Cx} {T : List Nat} {W : WV} {K : Fg} {pos p : Pos} {e : Expr} {fs : M (List Rv)}
end
end VL

end

section
set_option Elab.async false
set_option linter.all false
set_option maxRecDepth 100000
namespace SXD
open PySem PySem.Spec PyProof.Rows L2 VL SM SN
end SXD

end

section
set_option Elab.async false
set_option linter.all false
namespace DV
noncomputable def Part (L : List Int) (D : Nat) : Prop := ∃ gs : List (List Int), gs.length = D ∧ gs.flatten.Perm L ∧ ∀ g ∈ gs, g ≠ [] ∧ g.sum = 0
theorem Part.map {f : Int → Int} {L : List Int} {D : Nat} (h0 : ∀ g : List Int, (∀ x ∈ g, x ∈ L) → g.sum = 0 → (g.map f).sum = 0) (h : Part L D) : Part (L.map f) D := by
  obtain ⟨gs, a, b, c⟩ := h
  refine ⟨gs.map (·.map f), by rw [List.length_map, a], ?_, fun g hg => ?_⟩
  · rw [← List.map_flatten]
    exact b.map f
  · obtain ⟨g', h1, rfl⟩ := List.mem_map.mp hg
    obtain ⟨h2, h3⟩ := c g' h1
    exact ⟨by simpa using h2, h0 g' (fun x hx => b.mem_iff.mp (List.mem_flatten.mpr ⟨g', h1, hx⟩)) h3⟩
noncomputable def bit (S k : Nat) : Nat := S / 2 ^ k % 2
noncomputable def sumS : List Int → Nat → Int
  | [], _ => 0
  | x :: xs, S => (if S % 2 = 1 then x else 0) + sumS xs (S / 2)
noncomputable def sumP (N : List Int) (l : List Nat) : Int := (l.map fun k => N[k]?.getD 0).sum
noncomputable def zS (N : List Int) (S : Nat) : Nat := if sumS N S = 0 then 1 else 0
structure Best (N : List Int) (best : Nat → Nat) : Prop where
  zero : best 0 = 0
  some : ∀ S, 0 < S → S < 2 ^ N.length → ∃ k, k < N.length ∧ bit S k = 1 ∧ best S = best (S - 2 ^ k) + zS N S
  all : ∀ S, 0 < S → S < 2 ^ N.length → ∀ k, k < N.length → bit S k = 1 → best (S - 2 ^ k) + zS N S ≤ best S
section
variable {N : List Int} {best : Nat → Nat} (b : Best N best)
include b
end
structure GI (N : List Int) (best : Nat → Nat) (S : Nat) (G : List (List Nat)) : Prop where
  lt : S < 2 ^ N.length
  nd : G.flatten.Nodup
  inn : ∀ k ∈ G.flatten, k < N.length
  mem : ∀ k, k < N.length → (bit S k = 1 ↔ k ∉ G.flatten)
  ct : G.length + best S = best (2 ^ N.length - 1)
  grp : (G = [] ∧ sumS N S = 0) ∨ ∃ G' g, G = G' ++ [g] ∧ g ≠ [] ∧ (∀ h ∈ G', h ≠ [] ∧ sumP N h = 0) ∧ sumP N g + sumS N S = 0
structure GE (N : List Int) (B : Nat) (G : List (List Nat)) : Prop where
  ct : G.length = B
  nd : G.flatten.Nodup
  mem : ∀ k, k ∈ G.flatten ↔ k < N.length
  grp : ∀ g ∈ G, g ≠ [] ∧ sumP N g = 0
end DV

end

section
set_option Elab.async false
set_option linter.all false
set_option maxRecDepth 100000
set_option maxHeartbeats 2000000
namespace DQ
open PySem PySem.Spec PyProof.Rows L2 VL SM SP SH SXD
noncomputable abbrev iD (xs : List Int) : PyData := .list (xs.map .int)
theorem addI {xs ys : List Int} (h : xs.length + ys.length ≤ 1000000) : addD (iD xs) (iD ys) = some (iD (xs ++ ys)) := by
  show (if small ((xs.map PyData.int).length + (ys.map PyData.int).length) then some (PyData.list (xs.map PyData.int ++ ys.map PyData.int)) else none) = _
  rw [if_pos (small_of (by simp; omega)), ← List.map_append]
noncomputable def bS (B : List Nat) (S : Nat) : Nat := B[S]?.getD 0
structure Upto (N : List Int) (B : List Nat) (m : Nat) : Prop where
  zero : bS B 0 = 0
  some : ∀ S, 0 < S → S < m → ∃ k, k < N.length ∧ DV.bit S k = 1 ∧ bS B S = bS B (S - 2 ^ k) + DV.zS N S
  all : ∀ S, 0 < S → S < m → ∀ k, k < N.length → DV.bit S k = 1 → bS B (S - 2 ^ k) + DV.zS N S ≤ bS B S
end DQ

end

section
set_option Elab.async false
set_option linter.all false
namespace MT
variable {α : Type} [DecidableEq α]
noncomputable abbrev Mt (α : Type) := α → Option α
noncomputable def up (M : Mt α) (o s : α) : Mt α := fun x => if x = o then some s else M x
theorem up_same {M : Mt α} {o s : α} : up M o s o = some s := if_pos rfl
theorem up_ne {M : Mt α} {o s x : α} (h : x ≠ o) : up M o s x = M x := if_neg h
noncomputable abbrev Rs (α : Type) := Option (Bool × Mt α × List α)
noncomputable def go (rec : α → Mt α → List α → Rs α) (s : α) : List α → Mt α → List α → Rs α
  | [], M, sn => some (false, M, sn)
  | o :: r, M, sn => if o ∈ sn then go rec s r M sn else
    match M o with
    | none => some (true, up M o s, sn ++ [o])
    | some e => match rec e M (sn ++ [o]) with
      | none => none
      | some (true, M', sn') => some (true, up M' o s, sn')
      | some (false, M', sn') => go rec s r M' sn'
noncomputable def find (near : α → List α) : Nat → α → Mt α → List α → Rs α
  | 0 => fun _ _ _ => none
  | n + 1 => fun s M sn => go (find near n) s (near s) M sn
section
variable {near : α → List α} {U : List α}
theorem nodup_len : ∀ {l D : List α}, l.Nodup → (∀ x ∈ l, x ∈ D) → l.length ≤ D.length
  | [], _, _, _ => Nat.zero_le _
  | x :: l, D, hn, hs => by
    obtain ⟨h1, h2⟩ := List.nodup_cons.mp hn
    have hx : x ∈ D := hs x List.mem_cons_self
    have ih := nodup_len (l := l) (D := D.erase x) h2 fun y hy => by
      have hne : y ≠ x := fun e => h1 (e ▸ hy)
      exact (List.mem_erase_of_ne hne).2 (hs y (List.mem_cons_of_mem _ hy))
    have e := List.length_erase_of_mem hx
    have hp : 0 < D.length := List.length_pos_of_mem hx
    rw [List.length_cons]
    omega
theorem nodup_snoc {l : List α} {x : α} (h : l.Nodup) (hx : x ∉ l) : (l ++ [x]).Nodup :=
  List.nodup_append.mpr ⟨h, by simp, fun a ha b hb e => hx (by rw [List.mem_singleton.mp hb] at e; exact e ▸ ha)⟩
structure Sn (U sn sn' : List α) : Prop where
  nd : sn'.Nodup
  sub : ∀ x ∈ sn', x ∈ U
  inc : ∀ x ∈ sn, x ∈ sn'
theorem go_ok {rec : α → Mt α → List α → Rs α} {n : Nat} {s : α}
    (hr : ∀ e M sn, sn.Nodup → (∀ x ∈ sn, x ∈ U) → U.length < n + sn.length → ∃ b M' sn', rec e M sn = some (b, M', sn') ∧ Sn U sn sn') :
    ∀ (l : List α) (M : Mt α) (sn : List α), (∀ x ∈ l, x ∈ U) → sn.Nodup → (∀ x ∈ sn, x ∈ U) → U.length < n + 1 + sn.length → ∃ b M' sn', go rec s l M sn = some (b, M', sn') ∧ Sn U sn sn'
  | [], M, sn, _, nd, su, _ => ⟨false, M, sn, rfl, nd, su, fun _ h => h⟩
  | o :: r, M, sn, hl, nd, su, hn => by
    unfold go
    by_cases ho : o ∈ sn
    · rw [if_pos ho]
      exact go_ok hr r M sn (fun x hx => hl x (List.mem_cons_of_mem _ hx)) nd su hn
    · rw [if_neg ho]
      have nd1 := nodup_snoc nd ho
      have su1 : ∀ x ∈ sn ++ [o], x ∈ U := fun x hx => by
        rcases List.mem_append.mp hx with h | h
        · exact su x h
        · rw [List.mem_singleton.mp h]; exact hl o List.mem_cons_self
      cases hM : M o with
      | none => exact ⟨true, _, _, rfl, nd1, su1, fun x hx => List.mem_append_left _ hx⟩
      | some e =>
        obtain ⟨b, M', sn', e1, S⟩ := hr e M (sn ++ [o]) nd1 su1 (by rw [List.length_append, List.length_singleton]; omega)
        simp only
        rw [e1]
        have inc : ∀ x ∈ sn, x ∈ sn' := fun x hx => S.inc x (List.mem_append_left _ hx)
        cases b with
        | true => exact ⟨true, _, _, rfl, S.nd, S.sub, inc⟩
        | false =>
          have hl' : sn.length ≤ sn'.length := nodup_len nd inc
          obtain ⟨b, M2, sn2, e2, S2⟩ := go_ok hr r M' sn' (fun x hx => hl x (List.mem_cons_of_mem _ hx)) S.nd S.sub (by omega)
          exact ⟨b, M2, sn2, e2, S2.nd, S2.sub, fun x hx => S2.inc x (inc x hx)⟩
theorem find_ok (hU : ∀ e, ∀ x ∈ near e, x ∈ U) : ∀ (n : Nat) (s : α) (M : Mt α) (sn : List α), sn.Nodup → (∀ x ∈ sn, x ∈ U) → U.length < n + sn.length → ∃ b M' sn', find near n s M sn = some (b, M', sn') ∧ Sn U sn sn'
  | 0, s, M, sn, nd, su, h => by
    have := nodup_len nd su
    omega
  | n + 1, s, M, sn, nd, su, h => go_ok (n := n) (fun e M sn a b c => find_ok hU n e M sn a b c) (near s) M sn (hU s) nd su (by omega)
structure Fa (near : α → List α) (M : Mt α) (l sn : List α) (M' : Mt α) (sn' : List α) : Prop where
  e : M' = M
  inc : ∀ x ∈ sn, x ∈ sn'
  nr : ∀ x ∈ l, x ∈ sn'
  cl : ∀ o ∈ sn', o ∉ sn → ∃ e, M o = some e ∧ ∀ x ∈ near e, x ∈ sn'
theorem go_false {rec : α → Mt α → List α → Rs α} {s : α} (hr : ∀ e M sn M' sn', rec e M sn = some (false, M', sn') → Fa near M (near e) sn M' sn') :
    ∀ (l : List α) (M : Mt α) (sn : List α) (M' : Mt α) (sn' : List α), go rec s l M sn = some (false, M', sn') → Fa near M l sn M' sn'
  | [], M, sn, M', sn', h => by
    unfold go at h
    cases h
    exact ⟨rfl, fun _ h => h, (fun _ h => nomatch h), fun _ h h' => absurd h h'⟩
  | o :: r, M, sn, M', sn', h => by
    unfold go at h
    by_cases ho : o ∈ sn
    · rw [if_pos ho] at h
      have F := go_false hr r M sn M' sn' h
      refine ⟨F.e, F.inc, fun x hx => ?_, F.cl⟩
      rcases List.mem_cons.mp hx with e | hx
      · rw [e]; exact F.inc o ho
      · exact F.nr x hx
    · rw [if_neg ho] at h
      cases hM : M o with
      | none => rw [hM] at h; cases h
      | some e =>
        rw [hM] at h
        simp only at h
        cases h1 : rec e M (sn ++ [o]) with
        | none => rw [h1] at h; cases h
        | some q =>
          obtain ⟨b, M1, sn1⟩ := q
          rw [h1] at h
          cases b with
          | true => cases h
          | false =>
            have F1 := hr e M _ M1 sn1 h1
            have F := go_false hr r M1 sn1 M' sn' h
            have eM : M1 = M := F1.e
            have inc1 : ∀ x ∈ sn, x ∈ sn1 := fun x hx => F1.inc x (List.mem_append_left _ hx)
            have o1 : o ∈ sn1 := F1.inc o (List.mem_append_right _ (List.mem_singleton.mpr rfl))
            refine ⟨F.e.trans eM, fun x hx => F.inc x (inc1 x hx), fun x hx => ?_, fun x hx hn => ?_⟩
            · rcases List.mem_cons.mp hx with q | hx
              · rw [q]; exact F.inc o o1
              · exact F.nr x hx
            · by_cases hx1 : x ∈ sn1
              · by_cases hxo : x = o
                · subst hxo
                  exact ⟨e, hM, fun y hy => F.inc y (F1.nr y hy)⟩
                · obtain ⟨e', a1, a2⟩ := F1.cl x hx1 fun z => by
                    rcases List.mem_append.mp z with z | z
                    · exact hn z
                    · exact hxo (List.mem_singleton.mp z)
                  exact ⟨e', a1, fun y hy => F.inc y (a2 y hy)⟩
              · have := F.cl x hx hx1
                rwa [eM] at this
theorem find_false : ∀ (n : Nat) (s : α) (M : Mt α) (sn : List α) (M' : Mt α) (sn' : List α), find near n s M sn = some (false, M', sn') → Fa near M (near s) sn M' sn'
  | 0, _, _, _, _, _, h => by cases h
  | n + 1, s, M, sn, M', sn', h => go_false (fun e M sn M' sn' h => find_false n e M sn M' sn' h) (near s) M sn M' sn' h
structure Mok (near : α → List α) (M : Mt α) : Prop where
  inj : ∀ o o' e, M o = some e → M o' = some e → o = o'
  adj : ∀ o e, M o = some e → o ∈ near e
structure Tu (near : α → List α) (M : Mt α) (s : α) (sn : List α) (M' : Mt α) : Prop where
  old : ∀ o ∈ sn, M' o = M o
  adj : ∀ o e, M' o = some e → o ∈ near e
  dom : ∃ p, p ∉ sn ∧ M p = none ∧ (∃ e, M' p = some e) ∧ ∀ o, o ≠ p → (M' o).isSome = (M o).isSome
  rng : ∀ e, (∃ o, o ∉ sn ∧ M' o = some e) ↔ e = s ∨ ∃ o, o ∉ sn ∧ M o = some e
  inj : ∀ o o' e, o ∉ sn → o' ∉ sn → M' o = some e → M' o' = some e → o = o'
theorem go_true {rec : α → Mt α → List α → Rs α} {s : α} (hf : ∀ e M sn M' sn', rec e M sn = some (false, M', sn') → Fa near M (near e) sn M' sn')
    (hr : ∀ e M sn M' sn', Mok near M → (∀ o, M o = some e → o ∈ sn) → rec e M sn = some (true, M', sn') → Tu near M e sn M') :
    ∀ (l : List α) (M : Mt α) (sn : List α) (M' : Mt α) (sn' : List α), (∀ x ∈ l, x ∈ near s) → Mok near M → (∀ o, M o = some s → o ∈ sn) → go rec s l M sn = some (true, M', sn') → Tu near M s sn M'
  | [], M, sn, M', sn', _, _, _, h => by
    unfold go at h
    cases h
  | o :: r, M, sn, M', sn', hl, hM0, hs, h => by
    unfold go at h
    have hl' : ∀ x ∈ r, x ∈ near s := fun x hx => hl x (List.mem_cons_of_mem _ hx)
    have hos : o ∈ near s := hl o List.mem_cons_self
    by_cases ho : o ∈ sn
    · rw [if_pos ho] at h
      exact go_true hf hr r M sn M' sn' hl' hM0 hs h
    · rw [if_neg ho] at h
      cases hM : M o with
      | none =>
        rw [hM] at h
        cases h
        refine ⟨fun x hx => up_ne fun e => ho (e ▸ hx), fun x e hx => ?_, ⟨o, ho, hM, ⟨s, up_same⟩, fun x hx => by rw [up_ne hx]⟩, fun e => ⟨fun ⟨x, h1, h2⟩ => ?_, fun hh => ?_⟩, fun x y e hx hy h1 h2 => ?_⟩
        · by_cases q : x = o
          · subst q; rw [up_same] at hx; cases hx; exact hos
          · rw [up_ne q] at hx; exact hM0.adj x e hx
        · by_cases q : x = o
          · subst q; rw [up_same] at h2; cases h2; exact .inl rfl
          · rw [up_ne q] at h2; exact .inr ⟨x, h1, h2⟩
        · rcases hh with rfl | ⟨x, h1, h2⟩
          · exact ⟨o, ho, up_same⟩
          · have q : x ≠ o := fun z => by rw [z, hM] at h2; cases h2
            exact ⟨x, h1, (up_ne q).trans h2⟩
        · by_cases q : x = o
          · by_cases q' : y = o
            · rw [q, q']
            · subst q; rw [up_same] at h1; cases h1
              rw [up_ne q'] at h2
              exact absurd (hs y h2) hy
          · by_cases q' : y = o
            · subst q'; rw [up_same] at h2; cases h2
              rw [up_ne q] at h1
              exact absurd (hs x h1) hx
            · rw [up_ne q] at h1; rw [up_ne q'] at h2
              exact hM0.inj x y e h1 h2
      | some e =>
        rw [hM] at h
        simp only at h
        cases h1 : rec e M (sn ++ [o]) with
        | none => rw [h1] at h; cases h
        | some q =>
          obtain ⟨b, M1, sn1⟩ := q
          rw [h1] at h
          cases b with
          | false =>
            have F1 := hf e M _ M1 sn1 h1
            have eM : M1 = M := F1.e
            subst eM
            have inc1 : ∀ x ∈ sn, x ∈ sn1 := fun x hx => F1.inc x (List.mem_append_left _ hx)
            have T := go_true hf hr r M1 sn1 M' sn' hl' hM0 (fun x hx => inc1 x (hs x hx)) h
            -- what was seen on the way stays as it was: all of it has a mate
            have key : ∀ x, x ∈ sn1 → x ∉ sn → ∃ e', M1 x = some e' := fun x hx hn => by
              by_cases hxo : x = o
              · exact ⟨e, hxo ▸ hM⟩
              · obtain ⟨e', a1, _⟩ := F1.cl x hx fun z => by
                  rcases List.mem_append.mp z with z | z
                  · exact hn z
                  · exact hxo (List.mem_singleton.mp z)
                exact ⟨e', a1⟩
            refine ⟨fun x hx => T.old x (inc1 x hx), T.adj, ?_, fun e' => ⟨fun ⟨x, a, b⟩ => ?_, fun hh => ?_⟩, fun x y e' hx hy a b => ?_⟩
            · obtain ⟨p, p1, p2, p3, p4⟩ := T.dom
              exact ⟨p, fun z => p1 (inc1 p z), p2, p3, p4⟩
            · by_cases hx1 : x ∈ sn1
              · rw [T.old x hx1] at b
                exact .inr ⟨x, a, b⟩
              · rcases (T.rng e').mp ⟨x, hx1, b⟩ with z | ⟨y, y1, y2⟩
                · exact .inl z
                · exact .inr ⟨y, fun z => y1 (inc1 y z), y2⟩
            · rcases hh with z | ⟨x, a, b⟩
              · obtain ⟨y, y1, y2⟩ := (T.rng e').mpr (.inl z)
                exact ⟨y, fun z => y1 (inc1 y z), y2⟩
              · by_cases hx1 : x ∈ sn1
                · exact ⟨x, a, (T.old x hx1).trans b⟩
                · obtain ⟨y, y1, y2⟩ := (T.rng e').mpr (.inr ⟨x, hx1, b⟩)
                  exact ⟨y, fun z => y1 (inc1 y z), y2⟩
            · by_cases hx1 : x ∈ sn1
              · by_cases hy1 : y ∈ sn1
                · rw [T.old x hx1] at a; rw [T.old y hy1] at b
                  exact hM0.inj x y e' a b
                · rw [T.old x hx1] at a
                  rcases (T.rng e').mp ⟨y, hy1, b⟩ with z | ⟨w, w1, w2⟩
                  · rw [z] at a; exact absurd (hs x a) hx
                  · have := hM0.inj x w e' a w2
                    rw [this] at hx1; exact absurd hx1 w1
              · by_cases hy1 : y ∈ sn1
                · rw [T.old y hy1] at b
                  rcases (T.rng e').mp ⟨x, hx1, a⟩ with z | ⟨w, w1, w2⟩
                  · rw [z] at b; exact absurd (hs y b) hy
                  · have := hM0.inj y w e' b w2
                    rw [this] at hy1; exact absurd hy1 w1
                · exact T.inj x y e' hx1 hy1 a b
          | true =>
            cases h
            have T := hr e M (sn ++ [o]) M1 _ hM0 (fun x hx => by
              rw [hM0.inj x o e hx hM]
              exact List.mem_append_right _ (List.mem_singleton.mpr rfl)) h1
            have out : ∀ x, x ∉ sn → x ≠ o → x ∉ sn ++ [o] := fun x a b z => by
              rcases List.mem_append.mp z with z | z
              · exact a z
              · exact b (List.mem_singleton.mp z)
            have o1 : o ∈ sn ++ [o] := List.mem_append_right _ (List.mem_singleton.mpr rfl)
            refine ⟨fun x hx => ?_, fun x e' hx => ?_, ?_, fun e' => ⟨fun ⟨x, a, b⟩ => ?_, fun hh => ?_⟩, fun x y e' hx hy a b => ?_⟩
            · have q : x ≠ o := fun e => ho (e ▸ hx)
              rw [up_ne q]
              exact T.old x (List.mem_append_left _ hx)
            · by_cases q : x = o
              · subst q; rw [up_same] at hx; cases hx; exact hos
              · rw [up_ne q] at hx; exact T.adj x e' hx
            · obtain ⟨p, p1, p2, ⟨e', p3⟩, p4⟩ := T.dom
              have po : p ≠ o := fun z => p1 (by rw [z]; exact o1)
              refine ⟨p, fun z => p1 (List.mem_append_left _ z), p2, ⟨e', (up_ne po).trans p3⟩, fun x hx => ?_⟩
              by_cases q : x = o
              · subst q; rw [up_same, hM]; rfl
              · rw [up_ne q]; exact p4 x hx
            · by_cases q : x = o
              · subst q; rw [up_same] at b; cases b; exact .inl rfl
              · rw [up_ne q] at b
                rcases (T.rng e').mp ⟨x, out x a q, b⟩ with z | ⟨y, y1, y2⟩
                · exact .inr ⟨o, ho, z ▸ hM⟩
                · exact .inr ⟨y, fun z => y1 (List.mem_append_left _ z), y2⟩
            · rcases hh with rfl | ⟨x, a, b⟩
              · exact ⟨o, ho, up_same⟩
              · by_cases q : x = o
                · subst q
                  rw [hM] at b; cases b
                  obtain ⟨y, y1, y2⟩ := (T.rng e).mpr (.inl rfl)
                  have yo : y ≠ x := fun z => y1 (by rw [z]; exact o1)
                  exact ⟨y, fun z => y1 (List.mem_append_left _ z), (up_ne yo).trans y2⟩
                · obtain ⟨y, y1, y2⟩ := (T.rng e').mpr (.inr ⟨x, out x a q, b⟩)
                  have yo : y ≠ o := fun z => y1 (by rw [z]; exact o1)
                  exact ⟨y, fun z => y1 (List.mem_append_left _ z), (up_ne yo).trans y2⟩
            · have one : ∀ w, w ≠ o → w ∉ sn → M1 w = some s → False := fun w w1 w2 w3 => by
                rcases (T.rng s).mp ⟨w, out w w2 w1, w3⟩ with z | ⟨u, u1, u2⟩
                · exact ho (hs o (z ▸ hM))
                · exact u1 (List.mem_append_left _ (hs u u2))
              by_cases q : x = o
              · by_cases q' : y = o
                · rw [q, q']
                · subst q; rw [up_same] at a; cases a
                  rw [up_ne q'] at b
                  exact (one y q' hy b).elim
              · by_cases q' : y = o
                · subst q'; rw [up_same] at b; cases b
                  rw [up_ne q] at a
                  exact (one x q hx a).elim
                · rw [up_ne q] at a; rw [up_ne q'] at b
                  exact T.inj x y e' (out x hx q) (out y hy q') a b
theorem find_true : ∀ (n : Nat) (s : α) (M : Mt α) (sn : List α) (M' : Mt α) (sn' : List α), Mok near M → (∀ o, M o = some s → o ∈ sn) → find near n s M sn = some (true, M', sn') → Tu near M s sn M'
  | 0, _, _, _, _, _, _, _, h => by cases h
  | n + 1, s, M, sn, M', sn', hM, hs, h => go_true (find_false n) (fun e M sn M' sn' a b c => find_true n e M sn M' sn' a b c) (near s) M sn M' sn' (fun _ h => h) hM hs h
noncomputable def Cl (near : α → List α) (M : Mt α) (C : α → Prop) : Prop := ∀ o, C o → ∃ e, M o = some e ∧ ∀ x ∈ near e, C x
theorem go_cl1 {C : α → Prop} {rec : α → Mt α → List α → Rs α} {s : α} (hf : ∀ e M sn M' sn', rec e M sn = some (false, M', sn') → Fa near M (near e) sn M' sn')
    (hr : ∀ e M sn, Cl near M C → (∀ x ∈ near e, C x) → ∀ M' sn', rec e M sn ≠ some (true, M', sn')) :
    ∀ (l : List α) (M : Mt α) (sn : List α), Cl near M C → (∀ x ∈ l, C x) → ∀ M' sn', go rec s l M sn ≠ some (true, M', sn')
  | [], M, sn, _, _, M', sn', h => by unfold go at h; cases h
  | o :: r, M, sn, hC, hl, M', sn', h => by
    unfold go at h
    have hl' : ∀ x ∈ r, C x := fun x hx => hl x (List.mem_cons_of_mem _ hx)
    by_cases ho : o ∈ sn
    · rw [if_pos ho] at h
      exact go_cl1 hf hr r M sn hC hl' M' sn' h
    · rw [if_neg ho] at h
      obtain ⟨e, e1, e2⟩ := hC o (hl o List.mem_cons_self)
      rw [e1] at h
      simp only at h
      cases h1 : rec e M (sn ++ [o]) with
      | none => rw [h1] at h; cases h
      | some q =>
        obtain ⟨b, M1, sn1⟩ := q
        rw [h1] at h
        cases b with
        | true => exact hr e M _ hC e2 M1 sn1 h1
        | false =>
          have F1 := hf e M _ M1 sn1 h1
          have eM : M1 = M := F1.e
          subst eM
          exact go_cl1 hf hr r M1 sn1 hC hl' M' sn' h
theorem find_cl1 {C : α → Prop} : ∀ (n : Nat) (s : α) (M : Mt α) (sn : List α), Cl near M C → (∀ x ∈ near s, C x) → ∀ M' sn', find near n s M sn ≠ some (true, M', sn')
  | 0, _, _, _, _, _, _, _, h => by cases h
  | n + 1, s, M, sn, hC, hs, M', sn', h => go_cl1 (find_false n) (fun e M sn a b => find_cl1 n e M sn a b) (near s) M sn hC hs M' sn' h
theorem go_cl2 {C : α → Prop} {rec : α → Mt α → List α → Rs α} {s : α} (hf : ∀ e M sn M' sn', rec e M sn = some (false, M', sn') → Fa near M (near e) sn M' sn')
    (h1r : ∀ e M sn, Cl near M C → (∀ x ∈ near e, C x) → ∀ M' sn', rec e M sn ≠ some (true, M', sn'))
    (hr : ∀ e M sn M' sn', Cl near M C → rec e M sn = some (true, M', sn') → ∀ o, C o → M' o = M o) :
    ∀ (l : List α) (M : Mt α) (sn : List α) (M' : Mt α) (sn' : List α), Cl near M C → go rec s l M sn = some (true, M', sn') → ∀ o, C o → M' o = M o
  | [], M, sn, M', sn', _, h => by unfold go at h; cases h
  | o :: r, M, sn, M', sn', hC, h => by
    unfold go at h
    by_cases ho : o ∈ sn
    · rw [if_pos ho] at h
      exact go_cl2 hf h1r hr r M sn M' sn' hC h
    · rw [if_neg ho] at h
      cases hM : M o with
      | none =>
        rw [hM] at h
        cases h
        intro x hx
        refine up_ne fun z => ?_
        obtain ⟨e, e1, _⟩ := hC x hx
        rw [z, hM] at e1; cases e1
      | some e =>
        rw [hM] at h
        simp only at h
        cases h1 : rec e M (sn ++ [o]) with
        | none => rw [h1] at h; cases h
        | some q =>
          obtain ⟨b, M1, sn1⟩ := q
          rw [h1] at h
          cases b with
          | true =>
            cases h
            intro x hx
            have q : x ≠ o := fun z => by
              subst z
              obtain ⟨e', a1, a2⟩ := hC x hx
              rw [hM] at a1; cases a1
              exact h1r e M _ hC a2 M1 _ h1
            rw [up_ne q]
            exact hr e M _ M1 _ hC h1 x hx
          | false =>
            have F1 := hf e M _ M1 sn1 h1
            have eM : M1 = M := F1.e
            subst eM
            exact go_cl2 hf h1r hr r M1 sn1 M' sn' hC h
theorem find_cl2 {C : α → Prop} : ∀ (n : Nat) (s : α) (M : Mt α) (sn : List α) (M' : Mt α) (sn' : List α), Cl near M C → find near n s M sn = some (true, M', sn') → ∀ o, C o → M' o = M o
  | 0, _, _, _, _, _, _, h => by cases h
  | n + 1, s, M, sn, M', sn', hC, h => go_cl2 (find_false n) (find_cl1 n) (fun e M sn M' sn' a b => find_cl2 n e M sn M' sn' a b) (near s) M sn M' sn' hC h
end
end MT

end

section
set_option Elab.async false
set_option linter.all false
set_option maxRecDepth 100000
set_option maxHeartbeats 2000000
namespace DQ
open PySem PySem.Spec PyProof.Rows L2 VL SM SP SH SXD
section
variable {N : List Int} {B : List Nat} {S : Nat} {G : List (List Nat)} {v6 v7 : Sl}
end
end DQ

end

section
set_option Elab.async false
set_option linter.all false
set_option maxRecDepth 100000
set_option maxHeartbeats 2000000
namespace DQ
open PySem PySem.Spec PyProof.Rows L2 VL SM SP SH SXD
section
variable {κ : Type} [DecidableEq κ]
end
noncomputable abbrev QL := List (Key × PyData)
section
variable {d0 d1 : PyData} {Q : QL} {xs ys : List Nat} {R : List (Nat × Nat × Int)} {v7 v8 v9 : Sl} {x y : Nat} {a b c : Int}
end
end DQ

end

section
set_option Elab.async false
set_option linter.all false
set_option maxRecDepth 100000
set_option maxHeartbeats 2000000
namespace SH
open PySem PySem.Spec PyProof.Rows L2 VL SM SP DQ
section
variable {i : Nat} {ρ : Rho}
theorem p_own {m : Md} {t : Tr} (h : ρ[i]? = some (.own m t)) : pVar i ρ = some (.ok (i, []) ρ) := by
  unfold pVar
  rw [h]
theorem t_own {m : Md} {t : Tr} (h : ρ[i]? = some (.own m t)) : treeAt ρ (i, []) = some t := by
  unfold treeAt
  rw [h]
  rfl
theorem m_own {t : Tr} (h : ρ[i]? = some (.own .free t)) : modeOk ρ i = true := by
  unfold modeOk
  rw [h]
theorem s_own {t : Tr} (h : ρ[i]? = some (.own .free t)) (t' : Tr) : VL.putAt ρ (i, []) t' = ρ.set i (.own .free t') := by
  unfold VL.putAt
  rw [h]
  rfl
theorem bnd_ok {α β : Type} {f : M α} {k : α → M β} {ρ ρ1 : Rho} {a : α} (h : f ρ = some (.ok a ρ1)) : bnd f k ρ = k a ρ1 := by
  unfold bnd
  rw [h]
theorem sE_ok {α : Type} {f : M α} {k : α → MS} {ρ ρ1 : Rho} {a : α} (h : f ρ = some (.ok a ρ1)) : sE f k ρ = k a ρ1 := by
  unfold sE
  rw [h]
end
section
variable {κ : Type} [DecidableEq κ]
end
end SH

end

section
set_option Elab.async false
set_option linter.all false
set_option maxRecDepth 100000
set_option maxHeartbeats 2000000
namespace AP
open PySem PySem.Spec PyProof.Rows L2 VL SM SP
structure Sn where
  p : Bool
  b : Nat
  c : Nat
  q : Bool
deriving DecidableEq
noncomputable def pS (x : Bool) : Str := if x then sOut else sIn
noncomputable def lS (x : Bool) : Str := if x then sBrow else sChin
noncomputable def Sn.D (s : Sn) : PyData := .tuple [.str (pS s.p), .int (s.b : Nat), .int (s.c : Nat), .str (lS s.q)]
noncomputable def Sn.sk (s : Sn) : List Key := [.inr (pS s.p), .inl (s.b : Nat), .inl (s.c : Nat), .inr (lS s.q)]
noncomputable def allS : List Sn := [false, true].flatMap fun p => (List.range 10).flatMap fun b => (List.range 9).flatMap fun c => [false, true].map fun q => ⟨p, b, c + 1, q⟩
noncomputable def likes (s : Sn) : List Sn := [⟨!s.p, s.b, s.c, s.q⟩] ++ ((if s.b % 5 = 0 then [] else [⟨s.p, (s.b + 5) % 10, s.c, s.q⟩]) ++ ((if s.c % 5 = 0 then [] else [⟨s.p, s.b, (s.c + 5) % 10, s.q⟩]) ++ [⟨s.p, s.b, s.c, !s.q⟩]))
noncomputable def odd (s : Sn) : Bool := (s.p.toNat + (decide (5 < s.b)).toNat + (decide (5 < s.c)).toNat + s.q.toNat) % 2 == 1
noncomputable def sameS : PyData → Sn → Bool
  | .tuple [.str a, .int b, .int c, .str d], s => (a == pS s.p) && ((b == (s.b : Int)) && ((c == (s.c : Int)) && (d == lS s.q)))
  | _, _ => false
noncomputable def sameL : List Tr → List Sn → Bool
  | [], [] => true
  | .dat d :: ts, s :: ss => sameS d s && sameL ts ss
  | _, _ => false
noncomputable def chkL (F : Fn) (s : Sn) : Bool := match F [.val s.D] with
  | some (.ret (.lst ts), _) => sameL ts (likes s)
  | _ => false
noncomputable def chkO (F : Fn) (s : Sn) : Bool := match F [.val s.D] with
  | some (.ret (.dat (.bool b)), _) => b == odd s
  | _ => false
noncomputable def rowS (p : Bool) (b : Nat) : List Sn := (List.range 9).flatMap fun c => [false, true].map fun q => ⟨p, b, c + 1, q⟩
theorem allS_rows : allS = [false, true].flatMap fun p => (List.range 10).flatMap (rowS p) := rfl
theorem r10 : List.range 10 = [0, 1, 2, 3, 4, 5, 6, 7, 8, 9] := by decide
noncomputable def lkOk (s : Sn) : Bool := (likes s).all fun t => decide (t.b < 10 ∧ 1 ≤ t.c ∧ t.c ≤ 9) && (decide (s ∈ likes t) && (odd t == !odd s))
theorem lk_f0 : ((rowS false 0).all lkOk) = true := by decide +kernel
theorem lk_f1 : ((rowS false 1).all lkOk) = true := by decide +kernel
theorem lk_f2 : ((rowS false 2).all lkOk) = true := by decide +kernel
theorem lk_f3 : ((rowS false 3).all lkOk) = true := by decide +kernel
theorem lk_f4 : ((rowS false 4).all lkOk) = true := by decide +kernel
theorem lk_f5 : ((rowS false 5).all lkOk) = true := by decide +kernel
theorem lk_f6 : ((rowS false 6).all lkOk) = true := by decide +kernel
theorem lk_f7 : ((rowS false 7).all lkOk) = true := by decide +kernel
theorem lk_f8 : ((rowS false 8).all lkOk) = true := by decide +kernel
theorem lk_f9 : ((rowS false 9).all lkOk) = true := by decide +kernel
theorem lk_t0 : ((rowS true 0).all lkOk) = true := by decide +kernel
theorem lk_t1 : ((rowS true 1).all lkOk) = true := by decide +kernel
theorem lk_t2 : ((rowS true 2).all lkOk) = true := by decide +kernel
theorem lk_t3 : ((rowS true 3).all lkOk) = true := by decide +kernel
theorem lk_t4 : ((rowS true 4).all lkOk) = true := by decide +kernel
theorem lk_t5 : ((rowS true 5).all lkOk) = true := by decide +kernel
theorem lk_t6 : ((rowS true 6).all lkOk) = true := by decide +kernel
theorem lk_t7 : ((rowS true 7).all lkOk) = true := by decide +kernel
theorem lk_t8 : ((rowS true 8).all lkOk) = true := by decide +kernel
theorem lk_t9 : ((rowS true 9).all lkOk) = true := by decide +kernel
theorem chk_lk : (allS.all fun s => (likes s).all fun t => decide (t.b < 10 ∧ 1 ≤ t.c ∧ t.c ≤ 9) && (decide (s ∈ likes t) && (odd t == !odd s))) = true := by
  show (allS.all lkOk) = true
  rw [allS_rows]
  simp only [List.all_flatMap, r10, List.all_cons, List.all_nil, lk_f0, lk_f1, lk_f2, lk_f3, lk_f4, lk_f5, lk_f6, lk_f7, lk_f8, lk_f9, lk_t0, lk_t1, lk_t2, lk_t3, lk_t4, lk_t5, lk_t6, lk_t7, lk_t8, lk_t9, Bool.and_true]
theorem od_f0 : ((rowS false 0).all (chkO F_is_odd)) = true := by decide +kernel
theorem od_f1 : ((rowS false 1).all (chkO F_is_odd)) = true := by decide +kernel
theorem od_f2 : ((rowS false 2).all (chkO F_is_odd)) = true := by decide +kernel
theorem od_f3 : ((rowS false 3).all (chkO F_is_odd)) = true := by decide +kernel
theorem od_f4 : ((rowS false 4).all (chkO F_is_odd)) = true := by decide +kernel
theorem od_f5 : ((rowS false 5).all (chkO F_is_odd)) = true := by decide +kernel
theorem od_f6 : ((rowS false 6).all (chkO F_is_odd)) = true := by decide +kernel
theorem od_f7 : ((rowS false 7).all (chkO F_is_odd)) = true := by decide +kernel
theorem od_f8 : ((rowS false 8).all (chkO F_is_odd)) = true := by decide +kernel
theorem od_f9 : ((rowS false 9).all (chkO F_is_odd)) = true := by decide +kernel
theorem od_t0 : ((rowS true 0).all (chkO F_is_odd)) = true := by decide +kernel
theorem od_t1 : ((rowS true 1).all (chkO F_is_odd)) = true := by decide +kernel
theorem od_t2 : ((rowS true 2).all (chkO F_is_odd)) = true := by decide +kernel
theorem od_t3 : ((rowS true 3).all (chkO F_is_odd)) = true := by decide +kernel
theorem od_t4 : ((rowS true 4).all (chkO F_is_odd)) = true := by decide +kernel
theorem od_t5 : ((rowS true 5).all (chkO F_is_odd)) = true := by decide +kernel
theorem od_t6 : ((rowS true 6).all (chkO F_is_odd)) = true := by decide +kernel
theorem od_t7 : ((rowS true 7).all (chkO F_is_odd)) = true := by decide +kernel
theorem od_t8 : ((rowS true 8).all (chkO F_is_odd)) = true := by decide +kernel
theorem od_t9 : ((rowS true 9).all (chkO F_is_odd)) = true := by decide +kernel
theorem chk_od : (allS.all (chkO F_is_odd)) = true := by
  show (allS.all (chkO F_is_odd)) = true
  rw [allS_rows]
  simp only [List.all_flatMap, r10, List.all_cons, List.all_nil, od_f0, od_f1, od_f2, od_f3, od_f4, od_f5, od_f6, od_f7, od_f8, od_f9, od_t0, od_t1, od_t2, od_t3, od_t4, od_t5, od_t6, od_t7, od_t8, od_t9, Bool.and_true]
theorem al_f0 : ((rowS false 0).all (chkL F_alikes)) = true := by decide +kernel
theorem al_f1 : ((rowS false 1).all (chkL F_alikes)) = true := by decide +kernel
theorem al_f2 : ((rowS false 2).all (chkL F_alikes)) = true := by decide +kernel
theorem al_f3 : ((rowS false 3).all (chkL F_alikes)) = true := by decide +kernel
theorem al_f4 : ((rowS false 4).all (chkL F_alikes)) = true := by decide +kernel
theorem al_f5 : ((rowS false 5).all (chkL F_alikes)) = true := by decide +kernel
theorem al_f6 : ((rowS false 6).all (chkL F_alikes)) = true := by decide +kernel
theorem al_f7 : ((rowS false 7).all (chkL F_alikes)) = true := by decide +kernel
theorem al_f8 : ((rowS false 8).all (chkL F_alikes)) = true := by decide +kernel
theorem al_f9 : ((rowS false 9).all (chkL F_alikes)) = true := by decide +kernel
theorem al_t0 : ((rowS true 0).all (chkL F_alikes)) = true := by decide +kernel
theorem al_t1 : ((rowS true 1).all (chkL F_alikes)) = true := by decide +kernel
theorem al_t2 : ((rowS true 2).all (chkL F_alikes)) = true := by decide +kernel
theorem al_t3 : ((rowS true 3).all (chkL F_alikes)) = true := by decide +kernel
theorem al_t4 : ((rowS true 4).all (chkL F_alikes)) = true := by decide +kernel
theorem al_t5 : ((rowS true 5).all (chkL F_alikes)) = true := by decide +kernel
theorem al_t6 : ((rowS true 6).all (chkL F_alikes)) = true := by decide +kernel
theorem al_t7 : ((rowS true 7).all (chkL F_alikes)) = true := by decide +kernel
theorem al_t8 : ((rowS true 8).all (chkL F_alikes)) = true := by decide +kernel
theorem al_t9 : ((rowS true 9).all (chkL F_alikes)) = true := by decide +kernel
theorem chk_al : (allS.all (chkL F_alikes)) = true := by
  show (allS.all (chkL F_alikes)) = true
  rw [allS_rows]
  simp only [List.all_flatMap, r10, List.all_cons, List.all_nil, al_f0, al_f1, al_f2, al_f3, al_f4, al_f5, al_f6, al_f7, al_f8, al_f9, al_t0, al_t1, al_t2, al_t3, al_t4, al_t5, al_t6, al_t7, al_t8, al_t9, Bool.and_true]
theorem ll_f0 : ((rowS false 0).all (chkL F__law_likes)) = true := by decide +kernel
theorem ll_f1 : ((rowS false 1).all (chkL F__law_likes)) = true := by decide +kernel
theorem ll_f2 : ((rowS false 2).all (chkL F__law_likes)) = true := by decide +kernel
theorem ll_f3 : ((rowS false 3).all (chkL F__law_likes)) = true := by decide +kernel
theorem ll_f4 : ((rowS false 4).all (chkL F__law_likes)) = true := by decide +kernel
theorem ll_f5 : ((rowS false 5).all (chkL F__law_likes)) = true := by decide +kernel
theorem ll_f6 : ((rowS false 6).all (chkL F__law_likes)) = true := by decide +kernel
theorem ll_f7 : ((rowS false 7).all (chkL F__law_likes)) = true := by decide +kernel
theorem ll_f8 : ((rowS false 8).all (chkL F__law_likes)) = true := by decide +kernel
theorem ll_f9 : ((rowS false 9).all (chkL F__law_likes)) = true := by decide +kernel
theorem ll_t0 : ((rowS true 0).all (chkL F__law_likes)) = true := by decide +kernel
theorem ll_t1 : ((rowS true 1).all (chkL F__law_likes)) = true := by decide +kernel
theorem ll_t2 : ((rowS true 2).all (chkL F__law_likes)) = true := by decide +kernel
theorem ll_t3 : ((rowS true 3).all (chkL F__law_likes)) = true := by decide +kernel
theorem ll_t4 : ((rowS true 4).all (chkL F__law_likes)) = true := by decide +kernel
theorem ll_t5 : ((rowS true 5).all (chkL F__law_likes)) = true := by decide +kernel
theorem ll_t6 : ((rowS true 6).all (chkL F__law_likes)) = true := by decide +kernel
theorem ll_t7 : ((rowS true 7).all (chkL F__law_likes)) = true := by decide +kernel
theorem ll_t8 : ((rowS true 8).all (chkL F__law_likes)) = true := by decide +kernel
theorem ll_t9 : ((rowS true 9).all (chkL F__law_likes)) = true := by decide +kernel
theorem chk_ll : (allS.all (chkL F__law_likes)) = true := by
  show (allS.all (chkL F__law_likes)) = true
  rw [allS_rows]
  simp only [List.all_flatMap, r10, List.all_cons, List.all_nil, ll_f0, ll_f1, ll_f2, ll_f3, ll_f4, ll_f5, ll_f6, ll_f7, ll_f8, ll_f9, ll_t0, ll_t1, ll_t2, ll_t3, ll_t4, ll_t5, ll_t6, ll_t7, ll_t8, ll_t9, Bool.and_true]
end AP

end

section
set_option Elab.async false
set_option linter.all false
namespace MT
variable {α : Type} [DecidableEq α] {near : α → List α}
noncomputable def run (near : α → List α) (n : Nat) : List α → Mt α → List α → Option (Mt α × List α)
  | [], M, al => some (M, al)
  | s :: r, M, al => match find near n s M [] with
    | none => none
    | some (true, M', _) => run near n r M' al
    | some (false, M', _) => run near n r M' (al ++ [s])
noncomputable def mtd (odds : List α) (M : Mt α) : List α := odds.filter fun o => (M o).isSome
structure RInv (near : α → List α) (odds P : List α) (M : Mt α) (al : List α) : Prop where
  ok : Mok near M
  rng : ∀ o e, M o = some e → e ∈ P ∧ o ∈ odds
  all : ∀ s ∈ P, s ∈ al ∨ ∃ o, M o = some s
  alP : ∀ s ∈ al, s ∈ P
  alM : ∀ s ∈ al, ∀ o, M o ≠ some s
  nd : al.Nodup
  cl : ∀ s ∈ al, ∃ C : α → Prop, Cl near M C ∧ ∀ x ∈ near s, C x
  ct : (mtd odds M).length + al.length = P.length
theorem RInv.nil {odds : List α} : RInv near odds [] (fun _ => none) [] :=
  ⟨⟨(fun _ _ _ h => nomatch h), (fun _ _ h => nomatch h)⟩, (fun _ _ h => nomatch h), (fun _ h => nomatch h), (fun _ h => nomatch h), (fun _ h => nomatch h), List.nodup_nil, (fun _ h => nomatch h), by
    unfold mtd
    rw [List.filter_eq_nil_iff.mpr fun _ _ => by simp]
    rfl⟩
theorem mtd_one {M M' : Mt α} {p : α} (h1 : M p = none) (h2 : (M' p).isSome = true) (h3 : ∀ o, o ≠ p → (M' o).isSome = (M o).isSome) : ∀ {odds : List α}, odds.Nodup → p ∈ odds → (mtd odds M').length = (mtd odds M).length + 1
  | [], _, h => nomatch h
  | o :: r, hn, h => by
    obtain ⟨n1, n2⟩ := List.nodup_cons.mp hn
    unfold mtd
    by_cases q : o = p
    · subst q
      rw [List.filter_cons_of_pos (by rw [h2]), List.filter_cons_of_neg (by rw [h1]; exact Bool.false_ne_true), List.length_cons]
      have : r.filter (fun o => (M' o).isSome) = r.filter fun o => (M o).isSome := List.filter_congr fun x hx => h3 x fun z => n1 (z ▸ hx)
      rw [this]
    · have hp : p ∈ r := (List.mem_cons.mp h).resolve_left fun z => q z.symm
      have ih := mtd_one h1 h2 h3 n2 hp
      unfold mtd at ih
      by_cases z : (M o).isSome = true
      · rw [List.filter_cons_of_pos (by rw [h3 o q]; exact z), List.filter_cons_of_pos (p := fun o => (M o).isSome) z, List.length_cons, List.length_cons, ih]
      · rw [List.filter_cons_of_neg (by rw [h3 o q]; exact z), List.filter_cons_of_neg (p := fun o => (M o).isSome) z, ih]
theorem RInv.step {n : Nat} {odds P : List α} {M : Mt α} {al : List α} (I : RInv near odds P M al) (on : odds.Nodup) (hn : ∀ e, ∀ x ∈ near e, x ∈ odds) {s : α} (hs : s ∉ P) (hN : odds.length < n) :
    ∃ b M' sn', find near n s M [] = some (b, M', sn') ∧ RInv near odds (P ++ [s]) M' (if b then al else al ++ [s]) := by
  obtain ⟨b, M', sn', e, S⟩ := find_ok hn n s M [] List.nodup_nil (fun _ h => nomatch h) (by simpa using hN)
  refine ⟨b, M', sn', e, ?_⟩
  have sM : ∀ o, M o ≠ some s := fun o z => hs (I.rng o s z).1
  have sal : s ∉ al := fun z => hs (I.alP s z)
  cases b with
  | false =>
    have F := find_false n s M [] M' sn' e
    have eM : M' = M := F.e
    subst eM
    simp only [Bool.false_eq_true, if_false]
    have cls : Cl near M' (fun x => x ∈ sn') := fun o ho => F.cl o ho (fun z => nomatch z)
    refine ⟨I.ok, fun o e' h => ⟨List.mem_append_left _ (I.rng o e' h).1, (I.rng o e' h).2⟩, fun x hx => ?_, fun x hx => ?_, fun x hx => ?_, nodup_snoc I.nd sal, fun x hx => ?_, ?_⟩
    · rcases List.mem_append.mp hx with h | h
      · exact (I.all x h).imp_left (List.mem_append_left _)
      · exact .inl (List.mem_append_right _ h)
    · rcases List.mem_append.mp hx with h | h
      · exact List.mem_append_left _ (I.alP x h)
      · exact List.mem_append_right _ h
    · rcases List.mem_append.mp hx with h | h
      · exact I.alM x h
      · rw [List.mem_singleton.mp h]; exact sM
    · rcases List.mem_append.mp hx with h | h
      · exact I.cl x h
      · rw [List.mem_singleton.mp h]
        exact ⟨_, cls, F.nr⟩
    · rw [List.length_append, List.length_append, ← I.ct, Nat.add_assoc]
      first | done | rfl
  | true =>
    have T := find_true n s M [] M' sn' I.ok (fun o z => absurd z (sM o)) e
    simp only [if_true]
    obtain ⟨p, _, p1, ⟨e', p2⟩, p3⟩ := T.dom
    have po : p ∈ odds := hn e' p (T.adj p e' p2)
    refine ⟨⟨fun o o' e => T.inj o o' e (fun z => nomatch z) (fun z => nomatch z), T.adj⟩, fun o e h => ⟨?_, hn e o (T.adj o e h)⟩, fun x hx => ?_, fun x hx => List.mem_append_left _ (I.alP x hx), fun x hx o z => ?_, I.nd, fun x hx => ?_, ?_⟩
    · rcases (T.rng e).mp ⟨o, (fun z => nomatch z), h⟩ with z | ⟨y, _, y2⟩
      · exact List.mem_append_right _ (List.mem_singleton.mpr z)
      · exact List.mem_append_left _ (I.rng y e y2).1
    · rcases List.mem_append.mp hx with h | h
      · rcases I.all x h with z | ⟨o, z⟩
        · exact .inl z
        · obtain ⟨y, _, y2⟩ := (T.rng x).mpr (.inr ⟨o, (fun z => nomatch z), z⟩)
          exact .inr ⟨y, y2⟩
      · obtain ⟨y, _, y2⟩ := (T.rng x).mpr (.inl (List.mem_singleton.mp h))
        exact .inr ⟨y, y2⟩
    · rcases (T.rng x).mp ⟨o, (fun z => nomatch z), z⟩ with z | ⟨y, _, y2⟩
      · exact sal (z ▸ hx)
      · exact I.alM x hx y y2
    · obtain ⟨C, c1, c2⟩ := I.cl x hx
      refine ⟨C, fun o ho => ?_, c2⟩
      obtain ⟨e0, a1, a2⟩ := c1 o ho
      exact ⟨e0, (find_cl2 n s M [] M' sn' c1 e o ho).trans a1, a2⟩
    · rw [mtd_one p1 (by rw [p2]; rfl) p3 on po, List.length_append, List.length_singleton, ← I.ct]
      omega
theorem run_ok {n : Nat} {odds : List α} (on : odds.Nodup) (hn : ∀ e, ∀ x ∈ near e, x ∈ odds) (hN : odds.length < n) : ∀ (r P : List α) (M : Mt α) (al : List α), RInv near odds P M al → (P ++ r).Nodup → ∃ M' al', run near n r M al = some (M', al') ∧ RInv near odds (P ++ r) M' al'
  | [], P, M, al, I, _ => ⟨M, al, rfl, by rw [List.append_nil]; exact I⟩
  | s :: r, P, M, al, I, h => by
    have hs : s ∉ P := fun z => (List.nodup_append.mp h).2.2 s z s List.mem_cons_self rfl
    obtain ⟨b, M', sn', e, J⟩ := I.step on hn hs hN
    have h' : (P ++ [s] ++ r).Nodup := by rw [List.append_assoc]; exact h
    unfold run
    rw [e]
    cases b with
    | true =>
      obtain ⟨M2, al2, e2, J2⟩ := run_ok on hn hN r (P ++ [s]) M' al J h'
      exact ⟨M2, al2, e2, by rw [List.append_assoc] at J2; exact J2⟩
    | false =>
      obtain ⟨M2, al2, e2, J2⟩ := run_ok on hn hN r (P ++ [s]) M' (al ++ [s]) J h'
      exact ⟨M2, al2, e2, by rw [List.append_assoc] at J2; exact J2⟩
noncomputable def inner (M : Mt α) (E : List α) : List α → List α → List α → Option (List α × List α)
  | [], O, W => some (O, W)
  | o :: r, O, W => if o ∈ O then inner M E r O W else match M o with
    | none => none
    | some e => if e ∈ E then inner M E r (O ++ [o]) W else inner M E r (O ++ [o]) (W ++ [e])
noncomputable def ins (E : List α) (s : α) : List α := if s ∈ E then E else E ++ [s]
noncomputable def reach (near : α → List α) (M : Mt α) : Nat → List α → List α → List α → Option (List α × List α)
  | 0, _, _, _ => none
  | n + 1, E, O, W => match W.getLast? with
    | none => some (E, O)
    | some s => match inner M (ins E s) (near s) O W.dropLast with
      | none => none
      | some (O', W') => reach near M n (ins E s) O' W'
structure QInv (near : α → List α) (evens odds : List α) (M : Mt α) (al : List α) (CC : α → Prop) (E O W done : List α) : Prop where
  nd : (E ++ W).Nodup
  od : O.Nodup
  on : ∀ o ∈ O, o ∈ odds
  src : ∀ r ∈ E ++ W, r ∈ evens ∧ (r ∈ al ∨ ∃ o ∈ O, M o = some r)
  ali : ∀ r ∈ al, r ∈ E ++ W
  tgt : ∀ o ∈ O, ∃ e ∈ E ++ W, M o = some e
  cov : ∀ e ∈ E, e ∉ done → ∀ x ∈ near e, x ∈ O
  cc : ∀ r ∈ E ++ W, ∀ x ∈ near r, CC x
  ct : (E ++ W).length = al.length + O.length
section
variable {evens odds al : List α} {M : Mt α} {CC : α → Prop} (I : RInv near odds evens M al) (hc : Cl near M CC)
include I hc
theorem inner_ok {E : List α} {s : α} (hsE : s ∈ E) : ∀ (l O W : List α), (∀ x ∈ l, x ∈ near s) → QInv near evens odds M al CC E O W [s] → (∀ x ∈ near s, x ∈ l ∨ x ∈ O) → ∃ O' W', inner M E l O W = some (O', W') ∧ QInv near evens odds M al CC E O' W' []
  | [], O, W, _, J, h => ⟨O, W, rfl, J.nd, J.od, J.on, J.src, J.ali, J.tgt, fun e he _ => by
      by_cases q : e = s
      · subst q
        exact fun x hx => (h x hx).resolve_left fun z => nomatch z
      · exact J.cov e he fun z => q (List.mem_singleton.mp z), J.cc, J.ct⟩
  | o :: r, O, W, hl, J, h => by
    have hl' : ∀ x ∈ r, x ∈ near s := fun x hx => hl x (List.mem_cons_of_mem _ hx)
    unfold inner
    by_cases ho : o ∈ O
    · rw [if_pos ho]
      exact inner_ok hsE r O W hl' J fun x hx => by
        rcases h x hx with z | z
        · rcases List.mem_cons.mp z with q | z
          · rw [q]; exact .inr ho
          · exact .inl z
        · exact .inr z
    · rw [if_neg ho]
      obtain ⟨e, e1, e2⟩ := hc o (J.cc s (List.mem_append_left _ hsE) o (hl o List.mem_cons_self))
      simp only [e1]
      have hne : e ∉ E ++ W := fun z => by
        rcases (J.src e z).2 with q | ⟨o', q1, q2⟩
        · exact I.alM e q o e1
        · rw [I.ok.inj o o' e e1 q2] at ho; exact ho q1
      rw [if_neg fun z => hne (List.mem_append_left _ z)]
      have ass : E ++ (W ++ [e]) = (E ++ W) ++ [e] := (List.append_assoc _ _ _).symm
      refine inner_ok hsE r (O ++ [o]) (W ++ [e]) hl' ⟨by rw [ass]; exact nodup_snoc J.nd hne, nodup_snoc J.od ho, fun x hx => ?_, fun x hx => ?_, fun x hx => ?_, fun x hx => ?_, fun x hx hd y hy => List.mem_append_left _ (J.cov x hx hd y hy), fun x hx => ?_, ?_⟩ fun x hx => ?_
      · rcases List.mem_append.mp hx with z | z
        · exact J.on x z
        · rw [List.mem_singleton.mp z]; exact (I.rng o e e1).2
      · rw [ass] at hx
        rcases List.mem_append.mp hx with z | z
        · exact ⟨(J.src x z).1, (J.src x z).2.imp_right fun ⟨o', q1, q2⟩ => ⟨o', List.mem_append_left _ q1, q2⟩⟩
        · rw [List.mem_singleton.mp z]
          exact ⟨(I.rng o e e1).1, .inr ⟨o, List.mem_append_right _ (List.mem_singleton.mpr rfl), e1⟩⟩
      · rw [ass]; exact List.mem_append_left _ (J.ali x hx)
      · rw [ass]
        rcases List.mem_append.mp hx with z | z
        · obtain ⟨e', q1, q2⟩ := J.tgt x z
          exact ⟨e', List.mem_append_left _ q1, q2⟩
        · rw [List.mem_singleton.mp z]
          exact ⟨e, List.mem_append_right _ (List.mem_singleton.mpr rfl), e1⟩
      · rw [ass] at hx
        rcases List.mem_append.mp hx with z | z
        · exact J.cc x z
        · rw [List.mem_singleton.mp z]; exact e2
      · rw [ass, List.length_append, J.ct, List.length_append, Nat.add_assoc]; rfl
      · rcases h x hx with z | z
        · rcases List.mem_cons.mp z with q | z
          · exact .inr (List.mem_append_right _ (List.mem_singleton.mpr q))
          · exact .inl z
        · exact .inr (List.mem_append_left _ z)
theorem reach_ok : ∀ (n : Nat) (E O W : List α), QInv near evens odds M al CC E O W [] → evens.length < n + E.length → ∃ E' O', reach near M n E O W = some (E', O') ∧ QInv near evens odds M al CC E' O' [] []
  | 0, E, O, W, J, h => by
    have := nodup_len (l := E) (D := evens) (List.nodup_append.mp J.nd).1 fun x hx => (J.src x (List.mem_append_left _ hx)).1
    omega
  | n + 1, E, O, W, J, h => by
    unfold reach
    cases hW : W.getLast? with
    | none =>
      have : W = [] := List.getLast?_eq_none_iff.mp hW
      subst this
      exact ⟨E, O, rfl, J⟩
    | some s =>
      obtain ⟨W0, rfl⟩ := List.getLast?_eq_some_iff.mp hW
      have hp : (E ++ (W0 ++ [s])).Perm (E ++ [s] ++ W0) := by
        rw [List.append_assoc]
        exact List.Perm.append_left E List.perm_append_comm
      have nd := hp.nodup_iff.mp J.nd
      have hs : s ∉ E := fun z => (List.nodup_append.mp J.nd).2.2 s z s (List.mem_append_right _ (List.mem_singleton.mpr rfl)) rfl
      have ei : ins E s = E ++ [s] := if_neg hs
      have K : QInv near evens odds M al CC (E ++ [s]) O W0 [s] := ⟨nd, J.od, J.on, fun r hr => J.src r (hp.mem_iff.mpr hr), fun r hr => hp.mem_iff.mp (J.ali r hr), fun o ho => by
          obtain ⟨e, q1, q2⟩ := J.tgt o ho
          exact ⟨e, hp.mem_iff.mp q1, q2⟩, fun e he hd => by
          rcases List.mem_append.mp he with z | z
          · exact J.cov e z fun w => nomatch w
          · exact absurd z hd, fun r hr => J.cc r (hp.mem_iff.mpr hr), by rw [← hp.length_eq]; exact J.ct⟩
      obtain ⟨O', W', e1, J'⟩ := inner_ok I hc (E := E ++ [s]) (s := s) (List.mem_append_right _ (List.mem_singleton.mpr rfl)) (near s) O W0 (fun _ h => h) K fun x hx => .inl hx
      simp only [ei, List.dropLast_concat, e1]
      exact reach_ok n (E ++ [s]) O' W' J' (by rw [List.length_append, List.length_singleton]; omega)
omit hc in
theorem QInv.start (hcc : ∀ s ∈ al, ∀ x ∈ near s, CC x) : QInv near evens odds M al CC [] [] al [] :=
  ⟨I.nd, List.nodup_nil, (fun _ h => nomatch h), fun r hr => ⟨I.alP r hr, .inl hr⟩, fun r hr => hr, (fun _ h => nomatch h), (fun _ h => nomatch h), hcc, rfl⟩
end
theorem RInv.cc {odds evens al : List α} {M : Mt α} (I : RInv near odds evens M al) : ∃ CC : α → Prop, Cl near M CC ∧ ∀ s ∈ al, ∀ x ∈ near s, CC x := by
  refine ⟨fun x => ∃ C : α → Prop, Cl near M C ∧ C x, fun o ⟨C, c1, c2⟩ => ?_, fun s hs x hx => ?_⟩
  · obtain ⟨e, a1, a2⟩ := c1 o c2
    exact ⟨e, a1, fun y hy => ⟨C, c1, a2 y hy⟩⟩
  · obtain ⟨C, c1, c2⟩ := I.cl s hs
    exact ⟨C, c1, c2 x hx⟩
theorem filter_split (p ev : α → Bool) : ∀ l : List α, (l.filter p).length = ((l.filter ev).filter p).length + ((l.filter fun x => !ev x).filter p).length
  | [] => rfl
  | x :: l => by
    have ih := filter_split p ev l
    by_cases hx : ev x = true
    · rw [List.filter_cons_of_pos (l := l) hx, List.filter_cons_of_neg (p := fun x => !ev x) (l := l) (by simp [hx])]
      by_cases hp : p x = true
      · rw [List.filter_cons_of_pos hp, List.filter_cons_of_pos hp, List.length_cons, List.length_cons]; omega
      · rw [List.filter_cons_of_neg hp, List.filter_cons_of_neg hp]; omega
    · rw [List.filter_cons_of_neg (l := l) hx, List.filter_cons_of_pos (p := fun x => !ev x) (l := l) (by simp [hx])]
      by_cases hp : p x = true
      · rw [List.filter_cons_of_pos hp, List.filter_cons_of_pos hp, List.length_cons, List.length_cons]; omega
      · rw [List.filter_cons_of_neg hp, List.filter_cons_of_neg hp]; omega
theorem sub_count {E l : List α} (hE : E.Nodup) (hl : l.Nodup) (h : ∀ x ∈ E, x ∈ l) : (l.filter fun x => decide (x ∈ E)).length = E.length := by
  apply Nat.le_antisymm
  · exact nodup_len (hl.filter _) fun x hx => by simpa using (List.mem_filter.mp hx).2
  · exact nodup_len hE fun x hx => List.mem_filter.mpr ⟨h x hx, by simpa using hx⟩
theorem filter_not (p : α → Bool) : ∀ l : List α, (l.filter p).length + (l.filter fun x => !p x).length = l.length
  | [] => rfl
  | x :: l => by
    have ih := filter_not p l
    by_cases hp : p x = true
    · rw [List.filter_cons_of_pos hp, List.filter_cons_of_neg (by simp [hp]), List.length_cons, List.length_cons]; omega
    · rw [List.filter_cons_of_neg hp, List.filter_cons_of_pos (by simp [hp]), List.length_cons, List.length_cons]; omega
structure Kept (near : α → List α) (ev : α → Bool) (signs : List α) (M : Mt α) (kept : List α) : Prop where
  ct : kept.length + (mtd (signs.filter fun x => !ev x) M).length = signs.length
  ind : ∀ e ∈ kept, ev e = true → ∀ o ∈ kept, ev o = false → o ∉ near e
theorem kept_ok {signs al E O : List α} {ev : α → Bool} {M : Mt α} {CC : α → Prop} (sn : signs.Nodup) (I : RInv near (signs.filter fun x => !ev x) (signs.filter ev) M al) (J : QInv near (signs.filter ev) (signs.filter fun x => !ev x) M al CC E O [] []) :
    Kept near ev signs M (signs.filter fun s => decide (s ∈ E) || (!ev s && !decide (s ∈ O))) := by
  have nd : E.Nodup := by have := J.nd; rwa [List.append_nil] at this
  have src : ∀ r ∈ E, r ∈ signs.filter ev := fun r hr => (J.src r (List.mem_append_left _ hr)).1
  have ct : E.length = al.length + O.length := by have := J.ct; rwa [List.append_nil] at this
  refine ⟨?_, fun e he h1 o ho h2 z => ?_⟩
  · rw [filter_split _ ev]
    have a1 : ((signs.filter ev).filter fun s => decide (s ∈ E) || (!ev s && !decide (s ∈ O))) = (signs.filter ev).filter fun s => decide (s ∈ E) := List.filter_congr fun x hx => by
      have := (List.mem_filter.mp hx).2
      simp [this]
    have a2 : ((signs.filter fun x => !ev x).filter fun s => decide (s ∈ E) || (!ev s && !decide (s ∈ O))) = (signs.filter fun x => !ev x).filter fun s => !decide (s ∈ O) := List.filter_congr fun x hx => by
      have h := (List.mem_filter.mp hx).2
      have hE : x ∉ E := fun z => by
        have := (List.mem_filter.mp (src x z)).2
        rw [this] at h; cases h
      simp [hE] at h ⊢
      simp [h]
    rw [a1, a2, sub_count nd (sn.filter _) src]
    have b := filter_not (fun x => decide (x ∈ O)) (signs.filter fun x => !ev x)
    rw [sub_count J.od (sn.filter _) J.on] at b
    have c := I.ct
    have d := filter_not ev signs
    omega
  · have h3 := (List.mem_filter.mp he).2
    have h4 := (List.mem_filter.mp ho).2
    simp [h1] at h3
    have hoE : o ∉ E := fun z => by
      have := (List.mem_filter.mp (src o z)).2
      rw [this] at h2; cases h2
    simp [h2, hoE] at h4
    exact h4 (J.cov e h3 (fun w => nomatch w) o z)
theorem most {signs al T : List α} {ev : α → Bool} {M : Mt α} (sn : signs.Nodup) (I : RInv near (signs.filter fun x => !ev x) (signs.filter ev) M al) (tn : T.Nodup) (ts : ∀ x ∈ T, x ∈ signs)
    (ti : ∀ e ∈ T, ev e = true → ∀ o ∈ T, ev o = false → o ∉ near e) : T.length + (mtd (signs.filter fun x => !ev x) M).length ≤ signs.length := by
  let φ : α → α := fun o => if o ∈ T then (M o).getD o else o
  have mem : ∀ o, o ∈ mtd (signs.filter fun x => !ev x) M → o ∈ signs ∧ ev o = false ∧ ∃ e, M o = some e ∧ e ∈ signs ∧ ev e = true := fun o ho => by
    obtain ⟨h1, h2⟩ := List.mem_filter.mp ho
    obtain ⟨h3, h4⟩ := List.mem_filter.mp h1
    obtain ⟨e, he⟩ := Option.isSome_iff_exists.mp h2
    obtain ⟨h5, h6⟩ := List.mem_filter.mp (I.rng o e he).1
    exact ⟨h3, by simpa using h4, e, he, h5, h6⟩
  have φs : ∀ o ∈ mtd (signs.filter fun x => !ev x) M, φ o ∈ signs ∧ φ o ∉ T := fun o ho => by
    obtain ⟨h1, h2, e, h3, h4, h5⟩ := mem o ho
    by_cases hT : o ∈ T
    · have : φ o = e := by simp only [φ]; rw [if_pos hT, h3]; rfl
      rw [this]
      exact ⟨h4, fun z => ti e z h5 o hT h2 (I.ok.adj o e h3)⟩
    · have : φ o = o := by simp only [φ]; rw [if_neg hT]
      rw [this]
      exact ⟨h1, hT⟩
  have φi : ∀ o ∈ mtd (signs.filter fun x => !ev x) M, ∀ o' ∈ mtd (signs.filter fun x => !ev x) M, φ o = φ o' → o = o' := fun o ho o' ho' h => by
    obtain ⟨h1, h2, e, h3, h4, h5⟩ := mem o ho
    obtain ⟨g1, g2, e', g3, g4, g5⟩ := mem o' ho'
    by_cases hT : o ∈ T
    · have a : φ o = e := by simp only [φ]; rw [if_pos hT, h3]; rfl
      by_cases hT' : o' ∈ T
      · have b : φ o' = e' := by simp only [φ]; rw [if_pos hT', g3]; rfl
        rw [a, b] at h
        subst h
        exact I.ok.inj o o' e h3 g3
      · have b : φ o' = o' := by simp only [φ]; rw [if_neg hT']
        rw [a, b] at h
        rw [h] at h5; rw [h5] at g2; cases g2
    · have a : φ o = o := by simp only [φ]; rw [if_neg hT]
      by_cases hT' : o' ∈ T
      · have b : φ o' = e' := by simp only [φ]; rw [if_pos hT', g3]; rfl
        rw [a, b] at h
        rw [h] at h2; rw [h2] at g5; cases g5
      · have b : φ o' = o' := by simp only [φ]; rw [if_neg hT']
        rw [a, b] at h
        exact h
  have nd : ((mtd (signs.filter fun x => !ev x) M).map φ).Nodup := by
    have mn : (mtd (signs.filter fun x => !ev x) M).Nodup := (sn.filter _).filter _
    generalize mtd (signs.filter fun x => !ev x) M = L at φi mn
    induction L with
    | nil => exact List.nodup_nil
    | cons x L ih =>
      obtain ⟨n1, n2⟩ := List.nodup_cons.mp mn
      rw [List.map_cons]
      refine List.nodup_cons.mpr ⟨fun z => ?_, ih (fun o ho o' ho' => φi o (List.mem_cons_of_mem _ ho) o' (List.mem_cons_of_mem _ ho')) n2⟩
      obtain ⟨y, hy, e⟩ := List.mem_map.mp z
      have := φi y (List.mem_cons_of_mem _ hy) x List.mem_cons_self e
      exact n1 (this ▸ hy)
  have := nodup_len (l := T ++ (mtd (signs.filter fun x => !ev x) M).map φ) (D := signs) (List.nodup_append.mpr ⟨tn, nd, fun a ha b hb e => by
    obtain ⟨o, ho, rfl⟩ := List.mem_map.mp hb
    exact (φs o ho).2 (e ▸ ha)⟩) fun x hx => by
      rcases List.mem_append.mp hx with z | z
      · exact ts x z
      · obtain ⟨o, ho, rfl⟩ := List.mem_map.mp z
        exact (φs o ho).1
  rwa [List.length_append, List.length_map] at this
end MT

end

section
set_option Elab.async false
set_option linter.all false
set_option maxRecDepth 100000
set_option maxHeartbeats 2000000
namespace AP
open PySem PySem.Spec PyProof.Rows L2 VL SM SP SH
theorem pS_inj {x y : Bool} (h : pS x = pS y) : x = y := by
  have e1 : sIn ≠ sOut := by decide +kernel
  cases x <;> cases y
  · rfl
  · exact absurd h e1
  · exact absurd h.symm e1
  · rfl
theorem lS_inj {x y : Bool} (h : lS x = lS y) : x = y := by
  have e1 : sChin ≠ sBrow := by decide +kernel
  cases x <;> cases y
  · rfl
  · exact absurd h e1
  · exact absurd h.symm e1
  · rfl
theorem sk_inj {s t : Sn} (h : s.sk = t.sk) : s = t := by
  cases s; cases t
  unfold Sn.sk at h
  simp only [List.cons.injEq, Sum.inr.injEq, Sum.inl.injEq, and_true] at h
  obtain ⟨h1, h2, h3, h4⟩ := h
  have a := pS_inj h1
  have b := lS_inj h4
  simp only [Sn.mk.injEq]
  exact ⟨a, by omega, by omega, b⟩
theorem mem_all {s : Sn} : s ∈ allS ↔ s.b < 10 ∧ 1 ≤ s.c ∧ s.c ≤ 9 := by
  unfold allS
  simp only [List.mem_flatMap, List.mem_map, List.mem_range]
  constructor
  · rintro ⟨p, _, b, hb, c, hc, q, _, rfl⟩
    exact ⟨hb, by show 1 ≤ c + 1; omega, by show c + 1 ≤ 9; omega⟩
  · rintro ⟨h1, h2, h3⟩
    refine ⟨s.p, by cases s.p <;> simp, s.b, h1, s.c - 1, by omega, s.q, by cases s.q <;> simp, ?_⟩
    cases s
    simp only [Sn.mk.injEq, true_and, and_true] at h2 ⊢
    omega
theorem sn_of {d : PyData} (h : IsSign d) : ∃ s ∈ allS, d = s.D := by
  obtain ⟨a, b, c, e, rfl, k⟩ := sgOk_of h
  refine ⟨⟨decide (a = sOut), b.toNat, c.toNat, decide (e = sBrow)⟩, ?_, ?_⟩
  · rw [mem_all]
    have h1 := k.b0; have h2 := k.b9; have h3 := k.c1; have h4 := k.c9
    simp only
    omega
  · have h1 := k.b0; have h3 := k.c1
    unfold sgD Sn.D
    have e1 : pS (decide (a = sOut)) = a := by
      rcases k.ha with rfl | rfl
      · unfold pS; rw [if_neg (by decide +kernel)]
      · unfold pS; rw [if_pos (by decide)]
    have e2 : lS (decide (e = sBrow)) = e := by
      rcases k.hd with rfl | rfl
      · unfold lS; rw [if_neg (by decide +kernel)]
      · unfold lS; rw [if_pos (by decide)]
    simp only [e1, e2]
    rw [Int.toNat_of_nonneg h1, Int.toNat_of_nonneg (by omega)]
theorem isSign {s : Sn} (h : s ∈ allS) : IsSign s.D := by
  obtain ⟨h1, h2, h3⟩ := mem_all.mp h
  exact .mk (by cases s.p; exact .inl rfl; exact .inr rfl) (by omega) (by omega) (by omega) (by omega) (by cases s.q; exact .inl rfl; exact .inr rfl)
theorem sh_sn {s : Sn} (h : s ∈ allS) : Sh 1 s.D := sh_sign (isSign h)
theorem sameS_ok {d : PyData} {s : Sn} (h : sameS d s = true) : d = s.D := by
  unfold sameS at h
  split at h
  · rename_i a b c e s
    simp only [Bool.and_eq_true, beq_iff_eq] at h
    obtain ⟨rfl, rfl, rfl, rfl⟩ := h
    rfl
  · cases h
theorem sameL_ok : ∀ {ts : List Tr} {ss : List Sn}, sameL ts ss = true → ts = (ss.map Sn.D).map .dat
  | [], [], _ => rfl
  | [], _ :: _, h => by simp [sameL] at h
  | .dat d :: ts, s :: ss, h => by
    simp only [sameL, Bool.and_eq_true] at h
    rw [sameS_ok h.1, sameL_ok h.2]
    rfl
  | .dat d :: ts, [], h => by simp [sameL] at h
  | .tup _ :: _, ss, h => by simp [sameL] at h
  | .lst _ :: _, ss, h => by simp [sameL] at h
  | .dk _ :: _, ss, h => by simp [sameL] at h
  | .dt _ :: _, ss, h => by simp [sameL] at h
  | .ins _ _ :: _, ss, h => by simp [sameL] at h
  | .fk _ :: _, ss, h => by simp [sameL] at h
  | .ft _ :: _, ss, h => by simp [sameL] at h
  | .raw _ :: _, ss, h => by simp [sameL] at h
  | .sd _ :: _, ss, h => by simp [sameL] at h
  | .hole :: _, ss, h => by simp [sameL] at h
theorem chkL_ok {F : Fn} {s : Sn} (h : chkL F s = true) : ∃ outs, F [.val s.D] = some (.ret (.lst (((likes s).map Sn.D).map .dat)), outs) := by
  unfold chkL at h
  split at h
  · rename_i ts outs e
    rw [e, sameL_ok h]
    exact ⟨_, rfl⟩
  · cases h
theorem e_alikes {s : Sn} (h : s ∈ allS) : ∃ outs, F_alikes [.val s.D] = some (.ret (.lst (((likes s).map Sn.D).map .dat)), outs) := chkL_ok (List.all_eq_true.mp chk_al s h)
theorem e_law_likes {s : Sn} (h : s ∈ allS) : ∃ outs, F__law_likes [.val s.D] = some (.ret (.lst (((likes s).map Sn.D).map .dat)), outs) := chkL_ok (List.all_eq_true.mp chk_ll s h)
theorem e_odd {s : Sn} (h : s ∈ allS) : ∃ outs, F_is_odd [.val s.D] = some (.ret (.dat (.bool (odd s))), outs) := by
  have := List.all_eq_true.mp chk_od s h
  unfold chkO at this
  split at this
  · rename_i b outs e
    rw [e, beq_iff_eq.mp this]
    exact ⟨_, rfl⟩
  · cases this
theorem like_ok {s t : Sn} (h : s ∈ allS) (ht : t ∈ likes s) : t ∈ allS ∧ s ∈ likes t ∧ odd t = !odd s := by
  have := List.all_eq_true.mp (List.all_eq_true.mp chk_lk s h) t ht
  simp only [Bool.and_eq_true, decide_eq_true_eq, beq_iff_eq] at this
  exact ⟨mem_all.mpr this.1, this.2.1, this.2.2⟩
theorem eqv_D {s t : Sn} (hs : s ∈ allS) (ht : t ∈ allS) : PyData.eqv s.D t.D = decide (s = t) := by
  have e1 : PyData.eqv s.D t.D = ((pS s.p == pS t.p) && (((s.b : Int) == (t.b : Int)) && (((s.c : Int) == (t.c : Int)) && ((lS s.q == lS t.q) && true)))) := by
    unfold Sn.D
    show (PyData.eqv (.str _) (.str _) && (PyData.eqv (.int _) (.int _) && (PyData.eqv (.int _) (.int _) && (PyData.eqv (.str _) (.str _) && true)))) = _
    rw [eqv_ss, eqv_ss]
    rfl
  rw [e1, Bool.eq_iff_iff]
  simp only [Bool.and_eq_true, beq_iff_eq, and_true, decide_eq_true_eq]
  constructor
  · rintro ⟨a, b, c, d⟩
    refine sk_inj ?_
    unfold Sn.sk
    rw [a, b, c, d]
  · rintro rfl
    exact ⟨rfl, rfl, rfl, rfl⟩
theorem e_look {s t : Sn} (hs : s ∈ allS) (ht : t ∈ allS) : ∃ outs, F_look_alike [.val s.D, .val t.D] = some (.ret (.dat (.bool (decide (t ∈ likes s)))), outs) := by
  obtain ⟨outs, e⟩ := e_look_alike (al_sign (isSign hs)) (sh_sn ht)
  refine ⟨outs, ?_⟩
  rw [e]
  obtain ⟨o2, e2⟩ := e_alikes hs
  have ea : alks s.D = (likes s).map Sn.D := by
    unfold alks
    rw [e2]
    show (VL.flat (((likes s).map Sn.D).map .dat)).getD [] = _
    rw [flat_dat]
    rfl
  rw [ea, List.any_map]
  have key : (likes s).any ((fun z => z.eqv t.D) ∘ Sn.D) = decide (t ∈ likes s) := ?_
  · rw [key]
  rw [Bool.eq_iff_iff, List.any_eq_true, decide_eq_true_eq]
  constructor
  · rintro ⟨z, hz, h⟩
    have : PyData.eqv z.D t.D = true := h
    rw [eqv_D (like_ok hs hz).1 ht, decide_eq_true_eq] at this
    exact this ▸ hz
  · intro h
    exact ⟨t, h, by show PyData.eqv t.D t.D = true; rw [eqv_D ht ht]; simp⟩
noncomputable def dT (P : List (Sn × PyData)) : Tr := .dt (P.map fun p : Sn × PyData => (p.1.sk, .dat p.2))
noncomputable def lkP (P : List (Sn × PyData)) (o : Sn) : Option PyData := (P.find? fun p => decide (p.1 = o)).map (·.2)
noncomputable def ptP (P : List (Sn × PyData)) (o : Sn) (d : PyData) : List (Sn × PyData) := if (P.any fun p => decide (p.1 = o)) = true then P.map (fun p => if p.1 = o then (p.1, d) else p) else P ++ [(o, d)]
theorem key_D {s : Sn} : keyT s.D = some s.sk := by
  unfold Sn.D Sn.sk
  show (if kOk [.str (pS s.p), .int (s.b : Nat), .int (s.c : Nat), .str (lS s.q)] then none else some _) = _
  rw [if_neg (by rw [show kOk [PyData.str (pS s.p), .int (s.b : Nat), .int (s.c : Nat), .str (lS s.q)] = false from rfl]; exact Bool.false_ne_true)]
theorem get_dT {o : Sn} : ∀ {P : List (Sn × PyData)}, getK (P.map fun p : Sn × PyData => (p.1.sk, Tr.dat p.2)) o.sk = (lkP P o).map .dat
  | [] => rfl
  | p :: P => by
    have ih := get_dT (o := o) (P := P)
    unfold getK lkP at ih ⊢
    rw [List.map_cons]
    by_cases h : p.1 = o
    · rw [List.find?_cons_of_pos (by simp [h]), List.find?_cons_of_pos (by simp [h])]
      rfl
    · rw [List.find?_cons_of_neg (by simp; exact fun z => h (sk_inj z)), List.find?_cons_of_neg (by simp [h])]
      exact ih
theorem at_dT {P : List (Sn × PyData)} {o : Sn} : dictAt (dT P) o.D = some (lkP P o) := by
  show (match keyT o.D with
    | some k => (match getK (P.map fun p : Sn × PyData => (p.1.sk, Tr.dat p.2)) k with
      | none => some none
      | some (.dat e) => some (some e)
      | some _ => none)
    | none => none) = _
  rw [key_D]
  show (match getK (P.map fun p : Sn × PyData => (p.1.sk, Tr.dat p.2)) o.sk with
      | none => some none
      | some (.dat e) => some (some e)
      | some _ => none) = _
  rw [get_dT]
  cases lkP P o <;> rfl
theorem dats_dT : ∀ {P : List (Sn × PyData)}, dats (P.map fun p : Sn × PyData => (p.1.sk, Tr.dat p.2)) = some (P.map fun p : Sn × PyData => (p.1.sk, p.2))
  | [] => rfl
  | p :: P => by
    show (dats (P.map fun p : Sn × PyData => (p.1.sk, Tr.dat p.2))).map ((p.1.sk, p.2) :: ·) = _
    rw [dats_dT]
    rfl
theorem put_dT {P : List (Sn × PyData)} {o : Sn} {d : PyData} : toT (putP (P.map fun p : Sn × PyData => (p.1.sk, p.2)) o.sk d) = (ptP P o d).map fun p : Sn × PyData => (p.1.sk, Tr.dat p.2) := by
  have ha : ((P.map fun p : Sn × PyData => (p.1.sk, p.2)).any fun kv => decide (kv.1 = o.sk)) = P.any fun p => decide (p.1 = o) := by
    rw [List.any_map]
    congr 1
    funext p
    rw [Bool.eq_iff_iff]
    simp only [Function.comp, decide_eq_true_eq]
    exact ⟨sk_inj, fun e => by rw [e]⟩
  unfold putP ptP
  rw [ha]
  split
  · unfold toT
    simp only [List.map_map]
    refine List.map_congr_left fun p _ => ?_
    simp only [Function.comp]
    by_cases h : p.1 = o
    · simp [h]
    · have h2 : ¬ p.1.sk = o.sk := fun z => h (sk_inj z)
      simp [h, h2]
  · unfold toT
    simp
theorem lkP_pt {P : List (Sn × PyData)} {o x : Sn} {d : PyData} : lkP (ptP P o d) x = if x = o then some d else lkP P x := by
  unfold ptP
  split
  · rename_i h
    unfold lkP
    induction P with
    | nil => simp at h
    | cons p P ih =>
      rw [List.map_cons]
      by_cases hp : p.1 = o
      · by_cases hx : x = o
        · rw [if_pos hx, List.find?_cons_of_pos (by simp [hp, hx])]
          simp [hp]
        · rw [if_neg hx, List.find?_cons_of_neg (by simp [hp]; exact fun z => hx z.symm), List.find?_cons_of_neg (by simp [hp]; exact fun z => hx z.symm)]
          clear ih h
          congr 1
          induction P with
          | nil => rfl
          | cons r P ih2 =>
            rw [List.map_cons]
            by_cases hr : r.1 = o
            · rw [List.find?_cons_of_neg (by simp [hr]; exact fun z => hx z.symm), List.find?_cons_of_neg (by simp [hr]; exact fun z => hx z.symm)]
              exact ih2
            · rw [if_neg hr]
              by_cases hrx : r.1 = x
              · rw [List.find?_cons_of_pos (by simp [hrx]), List.find?_cons_of_pos (by simp [hrx])]
              · rw [List.find?_cons_of_neg (by simp [hrx]), List.find?_cons_of_neg (by simp [hrx])]
                exact ih2
      · rw [if_neg hp]
        have h' : (P.any fun p => decide (p.1 = o)) = true := by
          rw [List.any_cons] at h
          simpa [hp] using h
        by_cases hpx : p.1 = x
        · rw [List.find?_cons_of_pos (by simp [hpx]), List.find?_cons_of_pos (by simp [hpx]), if_neg (by rw [← hpx]; exact hp)]
        · rw [List.find?_cons_of_neg (by simp [hpx]), List.find?_cons_of_neg (by simp [hpx])]
          exact ih h'
  · rename_i h
    have hn : ∀ p ∈ P, p.1 ≠ o := fun p hp e => h (List.any_eq_true.mpr ⟨p, hp, by simp [e]⟩)
    unfold lkP
    rw [List.find?_append]
    by_cases hx : x = o
    · subst hx
      rw [if_pos rfl, List.find?_eq_none.mpr fun p hp => by simp [hn p hp]]
      simp
    · rw [if_neg hx]
      cases hf : P.find? (fun p => decide (p.1 = x)) with
      | some p => rfl
      | none =>
        have h2 : ¬ o = x := fun z => hx z.symm
        simp [h2]
theorem keys_pt {P : List (Sn × PyData)} {o : Sn} {d : PyData} : (ptP P o d).map (·.1) = if o ∈ P.map (·.1) then P.map (·.1) else P.map (·.1) ++ [o] := by
  have hm : (P.any fun p => decide (p.1 = o)) = true ↔ o ∈ P.map (·.1) := by
    rw [List.any_eq_true, List.mem_map]
    simp only [decide_eq_true_eq]
  unfold ptP
  by_cases h : (P.any fun p => decide (p.1 = o)) = true
  · rw [if_pos h, if_pos (hm.mp h), List.map_map]
    refine List.map_congr_left fun p _ => ?_
    simp only [Function.comp]
    split <;> rfl
  · rw [if_neg h, if_neg fun z => h (hm.mpr z)]
    simp
end AP

end

section
set_option Elab.async false
set_option linter.all false
set_option maxRecDepth 100000
set_option maxHeartbeats 2000000
namespace AP
open PySem PySem.Spec PyProof.Rows L2 VL SM SP SH SXA
theorem if_t {c : M Bool} {g h : MS} {ρ ρ1 : Rho} (e : c ρ = some (.ok true ρ1)) : sIf c g h ρ = g ρ1 := by
  unfold sIf sE
  rw [e]
  rfl
theorem if_n {c : M Bool} {g h : MS} {ρ ρ1 : Rho} (e : c ρ = some (.ok false ρ1)) : sIf c g h ρ = h ρ1 := by
  unfold sIf sE
  rw [e]
  rfl
theorem loop_rt {g : MG} {b : MS} {d : PyData} {ds : List PyData} {ρ ρ1 ρ2 : Rho} {t : Tr} (h : g d ρ = some ρ1) (e : b ρ1 = some (.rt t ρ2)) : loopF g b (d :: ds) ρ = some (.rt t ρ2) := by
  show (match g d ρ with
    | none => none
    | some ρ1 => match b ρ1 with
      | some (.nx ρ2) => loopF g b ds ρ2
      | some (.ct ρ2) => loopF g b ds ρ2
      | some (.bk ρ2) => some (.nx ρ2)
      | o => o) = _
  rw [h]
  show (match b ρ1 with
      | some (.nx ρ2) => loopF g b ds ρ2
      | some (.ct ρ2) => loopF g b ds ρ2
      | some (.bk ρ2) => some (.nx ρ2)
      | o => o) = _
  rw [e]
noncomputable def near (odds : List Sn) (e : Sn) : List Sn := odds.filter fun o => decide (o ∈ likes e)
noncomputable def nearP (evens odds : List Sn) : List (Sn × PyData) := evens.map fun e => (e, .list ((near odds e).map Sn.D))
noncomputable def seenP (sn : List Sn) : List (Sn × PyData) := sn.map fun s => (s, .bool true)
noncomputable abbrev nT (evens odds : List Sn) : Tr := dT (nearP evens odds)
noncomputable abbrev sT (sn : List Sn) : Tr := dT (seenP sn)
theorem lk_near {evens odds : List Sn} {s : Sn} (h : s ∈ evens) : lkP (nearP evens odds) s = some (.list ((near odds s).map Sn.D)) := by
  unfold nearP lkP
  induction evens with
  | nil => cases h
  | cons e es ih =>
    rw [List.map_cons]
    by_cases q : e = s
    · rw [List.find?_cons_of_pos (by simp [q]), q]
      rfl
    · rw [List.find?_cons_of_neg (by simp [q])]
      exact ih ((List.mem_cons.mp h).resolve_left fun z => q z.symm)
theorem lk_seen {sn : List Sn} {o : Sn} : lkP (seenP sn) o = if o ∈ sn then some (.bool true) else none := by
  unfold seenP lkP
  induction sn with
  | nil => rfl
  | cons e es ih =>
    rw [List.map_cons]
    by_cases q : e = o
    · rw [List.find?_cons_of_pos (by simp [q]), if_pos (by simp [q])]
      rfl
    · rw [List.find?_cons_of_neg (by simp [q]), ih]
      have q2 : ¬ o = e := fun z => q z.symm
      simp [q2]
theorem pt_seen {sn : List Sn} {o : Sn} (h : o ∉ sn) : ptP (seenP sn) o (.bool true) = seenP (sn ++ [o]) := by
  unfold ptP
  rw [if_neg]
  · unfold seenP
    simp
  · rw [List.any_eq_true]
    rintro ⟨p, hp, e⟩
    obtain ⟨s, hs, rfl⟩ := List.mem_map.mp hp
    exact h ((of_decide_eq_true e) ▸ hs)
theorem cv_dT {i : Nat} {ρ : Rho} {md : Md} {P : List (Sn × PyData)} : VR.cvS i ρ (some (.own md (dT P))) = some (.ok (.o i) ρ) := rfl
theorem put_row {i : Nat} {ρ : Rho} {m : Md} {P : List (Sn × PyData)} {o : Sn} {d : PyData} (h : ρ[i]? = some (.own m (dT P))) (hm : m.ow = true) (hl : P.length ≤ 100000) : dPut1 [] d (i, []) (.d o.D) ρ = some (.nx (ρ.set i (.own m (dT (ptP P o d))))) := by
  have ht : treeAt ρ (i, []) = some (dT P) := by
    unfold treeAt
    rw [h]
    rfl
  have hp : VL.putAt ρ (i, []) (dT (ptP P o d)) = ρ.set i (.own m (dT (ptP P o d))) := by
    unfold VL.putAt
    rw [h]
    rfl
  unfold dPut1
  have hm' : modeOk ρ i = true := by
    unfold modeOk
    rw [h]
    cases m <;> first | rfl | cases hm
  rw [if_neg (by rw [hm']; simp), ht]
  show (match keyT o.D, dats (P.map fun p : Sn × PyData => (p.1.sk, Tr.dat p.2)) with
    | some k, some ds => if small (ds.length + 1) then some (Out.nx (VL.putAt ρ (i, []) (.dt (toT (putP ds k d))))) else none
    | _, _ => none) = _
  rw [key_D, dats_dT]
  show (if small ((P.map fun p : Sn × PyData => (p.1.sk, p.2)).length + 1) then some (Out.nx (VL.putAt ρ (i, []) (.dt (toT (putP (P.map fun p : Sn × PyData => (p.1.sk, p.2)) o.sk d))))) else none) = _
  rw [if_pos (small_of (by rw [List.length_map]; omega)), put_dT]
  exact congrArg (fun z => some (Out.nx z)) hp
theorem dput_c {fe fk : M Rv} {f : M (Nat × List Nat)} {d k : PyData} {i : Nat} {ρ : Rho} {r : Option Out} (h1 : fe ρ = some (.ok (.d d) ρ)) (h2 : f ρ = some (.ok (i, []) ρ)) (h3 : fk ρ = some (.ok (.d k) ρ)) (h : dPut1 [] d (i, []) (.d k) ρ = r) : VL.sDPut [] fe f fk ρ = r := by
  simp only [VR.ap_sDPut, VR.ap_sE, h1, h2, h3]
  exact h
noncomputable def Rep (P : List (Sn × PyData)) (M : MT.Mt Sn) : Prop := ∀ o, lkP P o = (M o).map Sn.D
structure KO (odds : List Sn) (P : List (Sn × PyData)) : Prop where
  nd : (P.map (·.1)).Nodup
  sub : ∀ k ∈ P.map (·.1), k ∈ odds
theorem KO.len {odds : List Sn} {P : List (Sn × PyData)} (h : KO odds P) : P.length ≤ odds.length := by
  have := MT.nodup_len h.nd h.sub
  rwa [List.length_map] at this
theorem Rep.put {P : List (Sn × PyData)} {M : MT.Mt Sn} (h : Rep P M) (o s : Sn) : Rep (ptP P o s.D) (MT.up M o s) := fun x => by
  rw [lkP_pt]
  unfold MT.up
  split
  · rfl
  · exact h x
theorem KO.put {odds : List Sn} {P : List (Sn × PyData)} (h : KO odds P) {o : Sn} (ho : o ∈ odds) (d : PyData) : KO odds (ptP P o d) := by
  by_cases hn : o ∈ P.map (·.1)
  · have e : (ptP P o d).map (·.1) = P.map (·.1) := by rw [keys_pt, if_pos hn]
    exact ⟨by rw [e]; exact h.nd, by rw [e]; exact h.sub⟩
  · have e : (ptP P o d).map (·.1) = P.map (·.1) ++ [o] := by rw [keys_pt, if_neg hn]
    refine ⟨by rw [e]; exact MT.nodup_snoc h.nd hn, fun k hk => ?_⟩
    rw [e] at hk
    rcases List.mem_append.mp hk with z | z
    · exact h.sub k z
    · rw [List.mem_singleton.mp z]; exact ho
theorem KO.nil {odds : List Sn} : KO odds [] := ⟨List.nodup_nil, fun _ h => nomatch h⟩
structure FR' (evens odds : List Sn) (M' : MT.Mt Sn) (sn' : List Sn) (P' : List (Sn × PyData)) : Prop where
  rep : Rep P' M'
  ko : KO odds P'
  rng : ∀ o e, M' o = some e → e ∈ evens
  nd : sn'.Nodup
  sub : ∀ x ∈ sn', x ∈ odds
section
variable {evens odds : List Sn}
noncomputable abbrev env5 (evens odds : List Sn) (s : Sn) (P : List (Sn × PyData)) (sn : List Sn) (v4 : Sl) : Rho := [.val s.D, .own .pin (nT evens odds), .own .pin (dT P), .own .pin (sT sn), v4]
theorem turn_seen {F : Fn} {s o : Sn} {sn : List Sn} {P : List (Sn × PyData)} (h : o ∈ sn) :
    b_find_mate_0 F (env5 evens odds s P sn (.val o.D)) = some (.nx (env5 evens odds s P sn (.val o.D))) := by
  have a1 : dictAt (sT sn) o.D = some (some (.bool true)) := by rw [at_dT, lk_seen, if_pos h]
  have c1 : cDIn true (cVar 4) (pVar 3) (env5 evens odds s P sn (.val o.D)) = some (.ok false (env5 evens odds s P sn (.val o.D))) := by
    simp! only [setSl, List.replicate, pinS, Md.unb, VR.ap_fld1, VR.ap_pFld, VR.ap_pKey, VR.ap_keyT1, a1]
  exact if_n c1
section
variable {F : Fn} {s o e : Sn} {sn sn' : List Sn} {P P' : List (Sn × PyData)}
theorem turn_new (h : o ∉ sn) (hl : sn.length ≤ 1000) (g : MS) :
    sIf (cDIn true (cVar 4) (pVar 3)) (sSeq (sDPut [] (cD (.bool true)) (pVar 3) (cVar 4)) g) sNil (env5 evens odds s P sn (.val o.D)) = g (env5 evens odds s P (sn ++ [o]) (.val o.D)) := by
  have a1 : dictAt (sT sn) o.D = some none := by rw [at_dT, lk_seen, if_neg h]
  have c1 : cDIn true (cVar 4) (pVar 3) (env5 evens odds s P sn (.val o.D)) = some (.ok true (env5 evens odds s P sn (.val o.D))) := by
    simp! only [setSl, List.replicate, pinS, Md.unb, VR.ap_fld1, VR.ap_pFld, VR.ap_pKey, VR.ap_keyT1, a1]
  have p1 : dPut1 [] (.bool true) (3, []) (.d o.D) (env5 evens odds s P sn (.val o.D)) = some (.nx (env5 evens odds s P (sn ++ [o]) (.val o.D))) := by
    rw [put_row (m := .pin) (P := seenP sn) rfl rfl (by unfold seenP; rw [List.length_map]; omega), pt_seen h]
    rfl
  have c2 : sDPut [] (cD (.bool true)) (pVar 3) (cVar 4) (env5 evens odds s P sn (.val o.D)) = some (.nx (env5 evens odds s P (sn ++ [o]) (.val o.D))) := by
    exact dput_c rfl rfl rfl p1
  rw [if_t c1, seq_nx c2]
theorem body_eq : b_find_mate_0 F = sIf (cDIn true (cVar 4) (pVar 3)) (sSeq (VL.sDPut [] (cD (.bool true)) (pVar 3) (cVar 4)) (sIf (cOr (cDIn true (cVar 4) (pVar 2)) (cTest (cFrz (nCall [1, 2, 3] 4 F (aCons (cDGet [] (pVar 2) (cVar 4)) (aCons (cVar 1) (aCons (cVar 2) (aCons (cVar 3) aNil)))))))) (sSeq (VL.sDPut [] (cVar 0) (pVar 2) (cVar 4)) (sRet (nDat (cD (.bool true))))) sNil)) sNil := rfl
theorem turn_put (hl : P.length ≤ 1000) : sSeq (VL.sDPut [] (cVar 0) (pVar 2) (cVar 4)) (sRet (nDat (cD (.bool true)))) (env5 evens odds s P sn (.val o.D)) = some (.rt (.dat (.bool true)) (env5 evens odds s (ptP P o s.D) sn (.val o.D))) := by
  have p1 : dPut1 [] s.D (2, []) (.d o.D) (env5 evens odds s P sn (.val o.D)) = some (.nx (env5 evens odds s (ptP P o s.D) sn (.val o.D))) := by
    rw [put_row (m := .pin) (P := P) rfl rfl (by omega)]
    rfl
  rw [seq_nx (dput_c rfl rfl rfl p1)]
  rfl
theorem turn_none (h : o ∉ sn) (hl : sn.length ≤ 1000) (hp : P.length ≤ 1000) (hk : lkP P o = none) :
    b_find_mate_0 F (env5 evens odds s P sn (.val o.D)) = some (.rt (.dat (.bool true)) (env5 evens odds s (ptP P o s.D) (sn ++ [o]) (.val o.D))) := by
  have a1 : dictAt (dT P) o.D = some none := by rw [at_dT, hk]
  have c1 : cOr (cDIn true (cVar 4) (pVar 2)) (cTest (cFrz (nCall [1, 2, 3] 4 F (aCons (cDGet [] (pVar 2) (cVar 4)) (aCons (cVar 1) (aCons (cVar 2) (aCons (cVar 3) aNil))))))) (env5 evens odds s P (sn ++ [o]) (.val o.D)) = some (.ok true (env5 evens odds s P (sn ++ [o]) (.val o.D))) := by
    simp! only [setSl, List.replicate, pinS, Md.unb, VR.ap_fld1, VR.ap_pFld, VR.ap_pKey, VR.ap_keyT1, a1]
  rw [body_eq, turn_new h hl, if_t c1, turn_put hp]
theorem turn_call {b : Bool} (hk : lkP P o = some e.D)
    (hF : F [.val e.D, .own .pin (nT evens odds), .own .pin (dT P), .own .pin (sT sn)] = some (.ret (.dat (.bool b)), [.val e.D, .own .pin (nT evens odds), .own .pin (dT P'), .own .pin (sT sn')])) :
    cOr (cDIn true (cVar 4) (pVar 2)) (cTest (cFrz (nCall [1, 2, 3] 4 F (aCons (cDGet [] (pVar 2) (cVar 4)) (aCons (cVar 1) (aCons (cVar 2) (aCons (cVar 3) aNil))))))) (env5 evens odds s P sn (.val o.D)) = some (.ok b (env5 evens odds s P' sn' (.val o.D))) := by
  have a1 : dictAt (dT P) o.D = some (some e.D) := by rw [at_dT, hk]
  simp! only [setSl, List.replicate, pinS, Md.unb, VR.ap_fld1, VR.ap_pFld, VR.ap_pKey, VR.ap_keyT1, a1, cv_dT, hF]
theorem turn_true (h : o ∉ sn) (hl : sn.length ≤ 1000) (hp : P'.length ≤ 1000) (hk : lkP P o = some e.D)
    (hF : F [.val e.D, .own .pin (nT evens odds), .own .pin (dT P), .own .pin (sT (sn ++ [o]))] = some (.ret (.dat (.bool true)), [.val e.D, .own .pin (nT evens odds), .own .pin (dT P'), .own .pin (sT sn')])) :
    b_find_mate_0 F (env5 evens odds s P sn (.val o.D)) = some (.rt (.dat (.bool true)) (env5 evens odds s (ptP P' o s.D) sn' (.val o.D))) := by
  rw [body_eq, turn_new h hl, if_t (turn_call hk hF), turn_put hp]
theorem turn_false (h : o ∉ sn) (hl : sn.length ≤ 1000) (hk : lkP P o = some e.D)
    (hF : F [.val e.D, .own .pin (nT evens odds), .own .pin (dT P), .own .pin (sT (sn ++ [o]))] = some (.ret (.dat (.bool false)), [.val e.D, .own .pin (nT evens odds), .own .pin (dT P'), .own .pin (sT sn')])) :
    b_find_mate_0 F (env5 evens odds s P sn (.val o.D)) = some (.nx (env5 evens odds s P' sn' (.val o.D))) := by
  rw [body_eq, turn_new h hl, if_n (turn_call hk hF)]
  rfl
end
noncomputable def Tells (evens odds : List Sn) (F : Fn) (f : Sn → MT.Mt Sn → List Sn → MT.Rs Sn) : Prop := ∀ e M sn b M' sn' P, f e M sn = some (b, M', sn') → e ∈ evens → FR' evens odds M sn P →
  ∃ P', FR' evens odds M' sn' P' ∧ F [.val e.D, .own .pin (nT evens odds), .own .pin (dT P), .own .pin (sT sn)] = some (.ret (.dat (.bool b)), [.val e.D, .own .pin (nT evens odds), .own .pin (dT P'), .own .pin (sT sn')])
theorem FR'.seen {M : MT.Mt Sn} {sn : List Sn} {P : List (Sn × PyData)} (h : FR' evens odds M sn P) {o : Sn} (ho : o ∉ sn) (hi : o ∈ odds) : FR' evens odds M (sn ++ [o]) P :=
  ⟨h.rep, h.ko, h.rng, MT.nodup_snoc h.nd ho, fun x hx => by
    rcases List.mem_append.mp hx with z | z
    · exact h.sub x z
    · rw [List.mem_singleton.mp z]; exact hi⟩
theorem FR'.put {M : MT.Mt Sn} {sn : List Sn} {P : List (Sn × PyData)} (h : FR' evens odds M sn P) {o s : Sn} (hi : o ∈ odds) (hs : s ∈ evens) : FR' evens odds (MT.up M o s) sn (ptP P o s.D) :=
  ⟨h.rep.put o s, h.ko.put hi _, fun x e hx => by
    unfold MT.up at hx
    split at hx
    · cases hx; exact hs
    · exact h.rng x e hx, h.nd, h.sub⟩
theorem FR'.len {M : MT.Mt Sn} {sn : List Sn} {P : List (Sn × PyData)} (h : FR' evens odds M sn P) : sn.length ≤ odds.length := MT.nodup_len h.nd h.sub
theorem go_run (oL : odds.length ≤ 1000) {F : Fn} {f : Sn → MT.Mt Sn → List Sn → MT.Rs Sn} (hF : Tells evens odds F f) {s : Sn} (hs : s ∈ evens) : ∀ (l : List Sn) (M : MT.Mt Sn) (sn : List Sn) (b : Bool) (M' : MT.Mt Sn) (sn' : List Sn) (P : List (Sn × PyData)) (v4 : Sl), MT.go f s l M sn = some (b, M', sn') → (∀ o ∈ l, o ∈ odds) → FR' evens odds M sn P → frB (some v4) = true →
    ∃ P' w4, FR' evens odds M' sn' P' ∧ loopF (gN 4) (b_find_mate_0 F) (l.map Sn.D) (env5 evens odds s P sn v4) = if b then some (.rt (.dat (.bool true)) (env5 evens odds s P' sn' w4)) else some (.nx (env5 evens odds s P' sn' w4))
  | [], M, sn, b, M', sn', P, v4, h, _, R, _ => by
    unfold MT.go at h
    cases h
    exact ⟨P, v4, R, rfl⟩
  | o :: r, M, sn, b, M', sn', P, v4, h, hl, R, h4 => by
    have hi := hl o List.mem_cons_self
    have hl' : ∀ o ∈ r, o ∈ odds := fun x hx => hl x (List.mem_cons_of_mem _ hx)
    have g : gN 4 o.D (env5 evens odds s P sn v4) = some (env5 evens odds s P sn (.val o.D)) := setSl_f h4
    have ln := R.len
    have lp := R.ko.len
    unfold MT.go at h
    rw [List.map_cons]
    by_cases ho : o ∈ sn
    · rw [if_pos ho] at h
      rw [loop_cons g (turn_seen ho)]
      exact go_run oL hF hs r M sn b M' sn' P _ h hl' R rfl
    · rw [if_neg ho] at h
      have hk := R.rep o
      cases hM : M o with
      | none =>
        rw [hM] at h hk
        cases h
        refine ⟨_, .val o.D, (R.seen ho hi).put hi hs, ?_⟩
        rw [loop_rt g (turn_none ho (by omega) (by omega) hk)]
        rfl
      | some e =>
        rw [hM] at h hk
        simp only at h
        cases h1 : f e M (sn ++ [o]) with
        | none => rw [h1] at h; cases h
        | some q =>
          obtain ⟨b1, M1, sn1⟩ := q
          rw [h1] at h
          obtain ⟨P1, R1, e1⟩ := hF e M _ b1 M1 sn1 P h1 (R.rng o e hM) (R.seen ho hi)
          have lp1 := R1.ko.len
          cases b1 with
          | true =>
            cases h
            refine ⟨_, .val o.D, R1.put hi hs, ?_⟩
            rw [loop_rt g (turn_true ho (by omega) (by omega) hk e1)]
            rfl
          | false =>
            rw [loop_cons g (turn_false ho (by omega) hk e1)]
            exact go_run oL hF hs r M1 sn1 b M' sn' P1 _ h hl' R1 rfl
theorem find_run (oL : odds.length ≤ 1000) : ∀ n, Tells evens odds (F_find_mate n) (MT.find (near odds) n)
  | 0 => fun e M sn b M' sn' P h _ _ => by cases h
  | n + 1 => fun s M sn b M' sn' P h hs R => by
    obtain ⟨P', w4, R', lp⟩ := go_run oL (find_run oL n) hs (near odds s) M sn b M' sn' P .no h (fun o ho => (List.mem_filter.mp ho).1) R rfl
    refine ⟨P', R', ?_⟩
    have at1 : dictAt (nT evens odds) s.D = some (some (.list ((near odds s).map Sn.D))) := by rw [at_dT, lk_near hs]
    have it : iSeq (cDGet [] (pVar 1) (cVar 0)) (env5 evens odds s P sn .no) = some (.ok ((near odds s).map Sn.D) (env5 evens odds s P sn .no)) := by
      have io : itemsOf (.list ((near odds s).map Sn.D)) = some ((near odds s).map Sn.D) := rfl
      simp! only [setSl, List.replicate, pinS, Md.unb, VR.ap_fld1, VR.ap_pFld, VR.ap_pKey, VR.ap_keyT1, at1, io]
    show runF 5 (g_find_mate (F_find_mate n)) _ = _
    have fo := for_ok (b := b_find_mate_0 (F_find_mate n)) it lp
    cases b with
    | true =>
      refine (run_rt (t := .dat (.bool true)) (ρ' := env5 evens odds s P' sn' w4) ?_).trans rfl
      show sSeq _ _ (env5 evens odds s P sn .no) = _
      unfold sSeq
      rw [fo]
      rfl
    | false =>
      refine (run_rt (t := .dat (.bool false)) (ρ' := env5 evens odds s P' sn' w4) ?_).trans rfl
      show sSeq _ _ (env5 evens odds s P sn .no) = _
      rw [seq_nx fo]
      rfl
end
end AP

end

section
set_option Elab.async false
set_option linter.all false
set_option maxRecDepth 100000
set_option maxHeartbeats 2000000
namespace AP
open PySem PySem.Spec PyProof.Rows L2 VL SM SP SH SXA
theorem loopW_t {c : M Bool} {b : MS} {n : Nat} {ρ ρ1 ρ2 : Rho} (h : c ρ = some (.ok true ρ1)) (e : b ρ1 = some (.nx ρ2)) : loopW c b (n + 1) ρ = loopW c b n ρ2 := by
  rw [loopW]
  rw [h]
  show (match b ρ1 with
      | some (.nx ρ2) => loopW c b n ρ2
      | some (.ct ρ2) => loopW c b n ρ2
      | some (.bk ρ2) => some (.nx ρ2)
      | o => o) = _
  rw [e]
theorem loopW_f {c : M Bool} {b : MS} {n : Nat} {ρ ρ1 : Rho} (h : c ρ = some (.ok false ρ1)) : loopW c b (n + 1) ρ = some (.nx ρ1) := by
  rw [loopW]
  rw [h]
theorem pt_ins {E : List Sn} {s : Sn} : ptP (seenP E) s (.bool true) = seenP (MT.ins E s) := by
  unfold MT.ins
  by_cases h : s ∈ E
  · rw [if_pos h]
    unfold ptP
    have hany : ((seenP E).any fun p => decide (p.1 = s)) = true := List.any_eq_true.mpr ⟨(s, PyData.bool true), List.mem_map.mpr ⟨s, h, rfl⟩, decide_eq_true rfl⟩
    rw [if_pos hany]
    unfold seenP
    rw [List.map_map]
    refine List.map_congr_left fun e _ => ?_
    show (if e = s then (e, PyData.bool true) else (e, .bool true)) = _
    split <;> rfl
  · rw [if_neg h, pt_seen h]
theorem len_ins {E : List Sn} {s : Sn} : (MT.ins E s).length ≤ E.length + 1 := by
  unfold MT.ins
  split
  · omega
  · simp
section
variable {evens odds : List Sn} {P : List (Sn × PyData)} {a0 : Sl}
noncomputable abbrev wT (W : List Sn) : Tr := .lst ((W.map Sn.D).map .dat)
noncomputable abbrev env8 (evens odds : List Sn) (P : List (Sn × PyData)) (a0 : Sl) (E O W : List Sn) (v6 v7 : Sl) : Rho := [a0, .own .pin (nT evens odds), .own .pin (dT P), .own .free (sT E), .own .free (sT O), .own .free (wT W), v6, v7]
theorem rb0_eq : b_reached_from_0 = sIf (cDIn true (cVar 7) (pVar 4)) (sSeq (VL.sDPut [] (cD (.bool true)) (pVar 4) (cVar 7)) (sIf (cDIn true (cDGet [] (pVar 2) (cVar 7)) (pVar 3)) (sApp [] (pVar 5) (nDat (cDGet [] (pVar 2) (cVar 7)))) sNil)) sNil := rfl
theorem rb_old {E O W : List Sn} {v6 : Sl} {o : Sn} (h : o ∈ O) : b_reached_from_0 (env8 evens odds P a0 E O W v6 (.val o.D)) = some (.nx (env8 evens odds P a0 E O W v6 (.val o.D))) := by
  have a1 : dictAt (sT O) o.D = some (some (.bool true)) := by rw [at_dT, lk_seen, if_pos h]
  have c1 : cDIn true (cVar 7) (pVar 4) (env8 evens odds P a0 E O W v6 (.val o.D)) = some (.ok false (env8 evens odds P a0 E O W v6 (.val o.D))) := by
    simp! only [setSl, List.replicate, pinS, Md.unb, VR.ap_fld1, VR.ap_pFld, VR.ap_pKey, VR.ap_keyT1, a1]
  exact if_n c1
theorem rb_new {E O W : List Sn} {v6 : Sl} {o e : Sn} (h : o ∉ O) (hO : O.length ≤ 90000) (hW : W.length ≤ 90000) (hk : lkP P o = some e.D) :
    b_reached_from_0 (env8 evens odds P a0 E O W v6 (.val o.D)) = some (.nx (env8 evens odds P a0 E (O ++ [o]) (if e ∈ E then W else W ++ [e]) v6 (.val o.D))) := by
  have a1 : dictAt (sT O) o.D = some none := by rw [at_dT, lk_seen, if_neg h]
  have c1 : cDIn true (cVar 7) (pVar 4) (env8 evens odds P a0 E O W v6 (.val o.D)) = some (.ok true (env8 evens odds P a0 E O W v6 (.val o.D))) := by
    simp! only [setSl, List.replicate, pinS, Md.unb, VR.ap_fld1, VR.ap_pFld, VR.ap_pKey, VR.ap_keyT1, a1]
  have p1 : dPut1 [] (.bool true) (4, []) (.d o.D) (env8 evens odds P a0 E O W v6 (.val o.D)) = some (.nx (env8 evens odds P a0 E (O ++ [o]) W v6 (.val o.D))) := by
    rw [put_row (m := .free) (P := seenP O) rfl rfl (by unfold seenP; rw [List.length_map]; omega), pt_seen h]
    rfl
  have a2 : dictAt (dT P) o.D = some (some e.D) := by rw [at_dT, hk]
  have a3 : dictAt (sT E) e.D = some (if e ∈ E then some (.bool true) else none) := by rw [at_dT, lk_seen]
  rw [rb0_eq, if_t c1, seq_nx (dput_c rfl rfl rfl p1)]
  by_cases he : e ∈ E
  · rw [if_pos he] at a3
    have c2 : cDIn true (cDGet [] (pVar 2) (cVar 7)) (pVar 3) (env8 evens odds P a0 E (O ++ [o]) W v6 (.val o.D)) = some (.ok false (env8 evens odds P a0 E (O ++ [o]) W v6 (.val o.D))) := by
      simp! only [setSl, List.replicate, pinS, Md.unb, VR.ap_fld1, VR.ap_pFld, VR.ap_pKey, VR.ap_keyT1, a2, a3]
    rw [if_n c2, if_pos he]
    rfl
  · rw [if_neg he] at a3
    have c2 : cDIn true (cDGet [] (pVar 2) (cVar 7)) (pVar 3) (env8 evens odds P a0 E (O ++ [o]) W v6 (.val o.D)) = some (.ok true (env8 evens odds P a0 E (O ++ [o]) W v6 (.val o.D))) := by
      simp! only [setSl, List.replicate, pinS, Md.unb, VR.ap_fld1, VR.ap_pFld, VR.ap_pKey, VR.ap_keyT1, a2, a3]
    have sm : small (((W.map Sn.D).map Tr.dat).length + 1) = true := small_of (by simp; omega)
    have ew : wT (W ++ [e]) = .lst ((W.map Sn.D).map .dat ++ [Tr.dat e.D]) := by unfold wT; simp
    rw [if_t c2, if_neg he]
    show _ = some (Out.nx [a0, .own .pin (nT evens odds), .own .pin (dT P), .own .free (sT E), .own .free (sT (O ++ [o])), .own .free (wT (W ++ [e])), v6, .val o.D])
    rw [ew]
    generalize hL : (W.map Sn.D).map Tr.dat = L at sm ⊢
    show sApp [] (pVar 5) (nDat (cDGet [] (pVar 2) (cVar 7))) [a0, .own .pin (nT evens odds), .own .pin (dT P), .own .free (sT E), .own .free (sT (O ++ [o])), .own .free (.lst ((W.map Sn.D).map Tr.dat)), v6, .val o.D] = _
    rw [hL]
    simp! only [setSl, List.replicate, pinS, Md.unb, VR.ap_fld1, VR.ap_pFld, VR.ap_pKey, VR.ap_keyT1, a2, sm]
    rfl
theorem inner_run {M : MT.Mt Sn} (R : Rep P M) {E : List Sn} {v6 : Sl} : ∀ (l O W O' W' : List Sn) (v7 : Sl), MT.inner M E l O W = some (O', W') → O.length + l.length ≤ 90000 → W.length + l.length ≤ 90000 → frB (some v7) = true →
    O'.length ≤ O.length + l.length ∧ W'.length ≤ W.length + l.length ∧ (∀ w ∈ W', w ∈ W ∨ ∃ o, M o = some w) ∧ ∃ w7, frB (some w7) = true ∧ loopF (gN 7) b_reached_from_0 (l.map Sn.D) (env8 evens odds P a0 E O W v6 v7) = some (.nx (env8 evens odds P a0 E O' W' v6 w7))
  | [], O, W, O', W', v7, h, _, _, h7 => by
    unfold MT.inner at h
    cases h
    exact ⟨by simp, by simp, fun w hw => .inl hw, v7, h7, rfl⟩
  | o :: r, O, W, O', W', v7, h, hO, hW, h7 => by
    unfold MT.inner at h
    rw [List.length_cons] at hO hW ⊢
    have g : gN 7 o.D (env8 evens odds P a0 E O W v6 v7) = some (env8 evens odds P a0 E O W v6 (.val o.D)) := setSl_f h7
    rw [List.map_cons]
    by_cases ho : o ∈ O
    · rw [if_pos ho] at h
      obtain ⟨h1, h2, h3, w7, h4, h5⟩ := inner_run R r O W O' W' (.val o.D) h (by omega) (by omega) rfl
      exact ⟨by omega, by omega, h3, w7, h4, by rw [loop_cons g (rb_old ho)]; exact h5⟩
    · rw [if_neg ho] at h
      have hk := R o
      cases hM : M o with
      | none => rw [hM] at h; cases h
      | some e =>
        rw [hM] at h hk
        simp only at h
        by_cases he : e ∈ E
        · rw [if_pos he] at h
          obtain ⟨h1, h2, h3, w7, h4, h5⟩ := inner_run R r (O ++ [o]) W O' W' (.val o.D) h (by simp; omega) (by omega) rfl
          refine ⟨by simp at h1; omega, by omega, h3, w7, h4, ?_⟩
          rw [loop_cons g (rb_new ho (by omega) (by omega) hk), if_pos he]
          exact h5
        · rw [if_neg he] at h
          obtain ⟨h1, h2, h3, w7, h4, h5⟩ := inner_run R r (O ++ [o]) (W ++ [e]) O' W' (.val o.D) h (by simp; omega) (by simp; omega) rfl
          refine ⟨by simp at h1; omega, by simp at h2; omega, fun w hw => ?_, w7, h4, ?_⟩
          · rcases h3 w hw with z | z
            · rcases List.mem_append.mp z with z | z
              · exact .inl z
              · exact .inr ⟨o, by rw [hM, List.mem_singleton.mp z]⟩
            · exact .inr z
          · rw [loop_cons g (rb_new ho (by omega) (by omega) hk), if_neg he]
            exact h5
theorem near_len {s : Sn} : (near odds s).length ≤ odds.length := List.length_filter_le _ _
theorem cond {E O W : List Sn} {v6 v7 : Sl} (hW : ∀ w ∈ W, w ∈ allS) : cCmp neD (cVar 5) (cFrz (nLst aNil)) (env8 evens odds P a0 E O W v6 v7) = some (.ok (!W.isEmpty) (env8 evens odds P a0 E O W v6 v7)) := by
  have td := toD_ds (ds := W.map Sn.D)
  have nn := ne_nil (n := 2) (ds := W.map Sn.D) (Sh.list fun d hd => by
    obtain ⟨w, hw, rfl⟩ := List.mem_map.mp hd
    exact sh_sn (hW w hw)) (by decide)
  have e : (W.map Sn.D).isEmpty = W.isEmpty := by cases W <;> rfl
  rw [e] at nn
  have cv : cVar 5 (env8 evens odds P a0 E O W v6 v7) = some (.ok (.o 5) (env8 evens odds P a0 E O W v6 v7)) := rfl
  have dr : der (env8 evens odds P a0 E O W v6 v7) (.o 5) = some (.list (W.map Sn.D)) := td
  have tn : Tr.toD (.lst []) = some (.list []) := rfl
  simp! only [setSl, List.replicate, pinS, Md.unb, VR.ap_fld1, VR.ap_pFld, VR.ap_pKey, VR.ap_keyT1, -VR.ap_cVar, cv, dr, nn, tn]
theorem rb1 {M : MT.Mt Sn} (R : Rep P M) (oL : odds.length ≤ 400) {E O W O' W' : List Sn} {s : Sn} {v6 v7 : Sl} (hs : s ∈ evens) (h6 : frB (some v6) = true) (h7 : frB (some v7) = true) (hE : E.length ≤ 80000) (hO : O.length ≤ 80000) (hW : W.length ≤ 80000) (h : MT.inner M (MT.ins E s) (near odds s) O W = some (O', W')) :
    O'.length ≤ O.length + 400 ∧ W'.length ≤ W.length + 400 ∧ (∀ w ∈ W', w ∈ W ∨ ∃ o, M o = some w) ∧ ∃ w7, frB (some w7) = true ∧ b_reached_from_1 (env8 evens odds P a0 E O (W ++ [s]) v6 v7) = some (.nx (env8 evens odds P a0 (MT.ins E s) O' W' (.val s.D) w7)) := by
  have nl := near_len (odds := odds) (s := s)
  obtain ⟨h1, h2, h3, w7, h4, lp⟩ := inner_run (evens := evens) (odds := odds) (a0 := a0) R (v6 := .val s.D) (near odds s) O W O' W' v7 h (by omega) (by omega) h7
  refine ⟨by omega, by omega, h3, w7, h4, ?_⟩
  have ew : wT (W ++ [s]) = .lst ((W.map Sn.D).map .dat ++ [Tr.dat s.D]) := by unfold wT; simp
  have pp : nPopT [5] (pVar 5) (env8 evens odds P a0 E O (W ++ [s]) v6 v7) = some (.ok (.dat s.D) (env8 evens odds P a0 E O W v6 v7)) := by
    have ga : ((W.map Sn.D).map Tr.dat ++ [Tr.dat s.D]).getLast? = some (.dat s.D) := by simp
    have gd : ((W.map Sn.D).map Tr.dat ++ [Tr.dat s.D]).dropLast = (W.map Sn.D).map Tr.dat := by simp
    show (match (wT (W ++ [s])) with
      | .lst ts => (match ts.getLast? with
        | some t => some (Er.ok t (VL.putAt (env8 evens odds P a0 E O (W ++ [s]) v6 v7) (5, []) (.lst ts.dropLast)))
        | none => none)
      | _ => none) = _
    rw [ew]
    show (match ((W.map Sn.D).map Tr.dat ++ [Tr.dat s.D]).getLast? with
        | some t => some (Er.ok t (VL.putAt (env8 evens odds P a0 E O (W ++ [s]) v6 v7) (5, []) (.lst ((W.map Sn.D).map Tr.dat ++ [Tr.dat s.D]).dropLast)))
        | none => none) = _
    rw [ga, gd]
    rfl
  have a1 : sSet 6 (cFrz (nPopT [5] (pVar 5))) (env8 evens odds P a0 E O (W ++ [s]) v6 v7) = some (.nx (env8 evens odds P a0 E O W (.val s.D) v7)) := by
    generalize nPopT [5] (pVar 5) = f at pp ⊢
    simp! only [List.replicate, pinS, Md.unb, VR.ap_fld1, VR.ap_pFld, VR.ap_pKey, VR.ap_keyT1, pp, setSl_f, h6]
  have p1 : dPut1 [] (.bool true) (3, []) (.d s.D) (env8 evens odds P a0 E O W (.val s.D) v7) = some (.nx (env8 evens odds P a0 (MT.ins E s) O W (.val s.D) v7)) := by
    rw [put_row (m := .free) (P := seenP E) rfl rfl (by unfold seenP; rw [List.length_map]; omega), pt_ins]
    rfl
  have at1 : dictAt (nT evens odds) s.D = some (some (.list ((near odds s).map Sn.D))) := by rw [at_dT, lk_near hs]
  have it : iSeq (cDGet [] (pVar 1) (cVar 6)) (env8 evens odds P a0 (MT.ins E s) O W (.val s.D) v7) = some (.ok ((near odds s).map Sn.D) (env8 evens odds P a0 (MT.ins E s) O W (.val s.D) v7)) := by
    have io : itemsOf (.list ((near odds s).map Sn.D)) = some ((near odds s).map Sn.D) := rfl
    simp! only [setSl, List.replicate, pinS, Md.unb, VR.ap_fld1, VR.ap_pFld, VR.ap_pKey, VR.ap_keyT1, at1, io]
  unfold b_reached_from_1
  rw [seq_nx a1, seq_nx (dput_c rfl rfl rfl p1)]
  exact for_ok it lp
theorem reach_run {M : MT.Mt Sn} (R : Rep P M) (oL : odds.length ≤ 400) (hM : ∀ o e, M o = some e → e ∈ evens) (eS : ∀ e ∈ evens, e ∈ allS) : ∀ (n : Nat) (E O W E' O' : List Sn) (v6 v7 : Sl), MT.reach (near odds) M n E O W = some (E', O') → (∀ w ∈ W, w ∈ evens) → E.length + n * 400 ≤ 80000 → O.length + n * 400 ≤ 80000 → W.length + n * 400 ≤ 80000 → frB (some v6) = true → frB (some v7) = true →
    ∀ m, n ≤ m → ∃ w6 w7, loopW (cCmp neD (cVar 5) (cFrz (nLst aNil))) b_reached_from_1 m (env8 evens odds P a0 E O W v6 v7) = some (.nx (env8 evens odds P a0 E' O' [] w6 w7))
  | 0, _, _, _, _, _, _, _, h, _, _, _, _, _, _, _, _ => by cases h
  | n + 1, E, O, W, E', O', v6, v7, h, hW, lE, lO, lW, h6, h7, m, hm => by
    obtain ⟨m, rfl⟩ : ∃ k, m = k + 1 := ⟨m - 1, by omega⟩
    have c := cond (evens := evens) (odds := odds) (P := P) (a0 := a0) (E := E) (O := O) (W := W) (v6 := v6) (v7 := v7) fun w hw => eS w (hW w hw)
    unfold MT.reach at h
    cases hw : W.getLast? with
    | none =>
      rw [hw] at h
      cases h
      have : W = [] := List.getLast?_eq_none_iff.mp hw
      subst this
      exact ⟨v6, v7, loopW_f c⟩
    | some s =>
      rw [hw] at h
      obtain ⟨W0, rfl⟩ := List.getLast?_eq_some_iff.mp hw
      simp only [List.dropLast_concat] at h
      rw [List.length_append, List.length_singleton] at lW
      cases hi : MT.inner M (MT.ins E s) (near odds s) O W0 with
      | none => rw [hi] at h; cases h
      | some q =>
        obtain ⟨O1, W1⟩ := q
        rw [hi] at h
        have hs := hW s (List.mem_append_right _ (List.mem_singleton.mpr rfl))
        obtain ⟨l1, l2, l3, w7, g7, e1⟩ := rb1 (a0 := a0) R oL hs h6 h7 (by omega) (by omega) (by omega) hi
        have li := len_ins (E := E) (s := s)
        have ne : (!(W0 ++ [s]).isEmpty) = true := by cases W0 <;> rfl
        rw [ne] at c
        obtain ⟨w6, w7', ih⟩ := reach_run R oL hM eS n (MT.ins E s) O1 W1 E' O' (.val s.D) w7 h (fun w hw' => (l3 w hw').elim (fun z => hW w (List.mem_append_left _ z)) fun ⟨o, z⟩ => hM o w z) (by omega) (by omega) (by omega) rfl g7 m (by omega)
        exact ⟨w6, w7', by rw [loopW_t c e1]; exact ih⟩
theorem e_reached {M : MT.Mt Sn} {al E O : List Sn} {n : Nat} (R : Rep P M) (oL : odds.length ≤ 400) (hM : ∀ o e, M o = some e → e ∈ evens) (eS : ∀ e ∈ evens, e ∈ allS) (hal : ∀ w ∈ al, w ∈ evens) (lal : al.length ≤ 400) (hn : n ≤ 190) (h : MT.reach (near odds) M n [] [] al = some (E, O)) :
    F_reached_from [.own .pin (wT al), .own .pin (nT evens odds), .own .pin (dT P)] = some (.ret (.tup [sT E, sT O]), [.own .pin (wT al), .own .pin (nT evens odds), .own .pin (dT P)]) := by
  obtain ⟨w6, w7, lp⟩ := reach_run (a0 := .own .pin (wT al)) (v6 := .no) (v7 := .no) R oL hM eS n [] [] al E O h hal (by simp; omega) (by simp; omega) (by omega) rfl rfl SM.fuel (by unfold SM.fuel; omega)
  refine (run_rt (t := .tup [sT E, sT O]) (ρ' := [.own .pin (wT al), .own .pin (nT evens odds), .own .pin (dT P), .own .free .hole, .own .free .hole, .own .free (wT []), w6, w7]) ?_).trans rfl
  have a3 : sSetN 5 (nListC (pVar 0)) [.own .pin (wT al), .own .pin (nT evens odds), .own .pin (dT P), .own .free (.dt []), .own .free (.dt []), .no, .no, .no] = some (.nx (env8 evens odds P (.own .pin (wT al)) [] [] al .no .no)) := by
    have fl : VL.flat ((al.map Sn.D).map .dat) = some (al.map Sn.D) := flat_dat (al.map Sn.D)
    have nl : nListC (pVar 0) [.own .pin (wT al), .own .pin (nT evens odds), .own .pin (dT P), .own .free (.dt []), .own .free (.dt []), .no, .no, .no] = some (.ok (wT al) [.own .pin (wT al), .own .pin (nT evens odds), .own .pin (dT P), .own .free (.dt []), .own .free (.dt []), .no, .no, .no]) := by
      show (match VL.flat ((al.map Sn.D).map .dat) with
        | some ds => some (Er.ok (Tr.lst (ds.map .dat)) [Sl.own .pin (wT al), .own .pin (nT evens odds), .own .pin (dT P), .own .free (.dt []), .own .free (.dt []), .no, .no, .no])
        | none => none) = _
      rw [fl]
    simp only [VR.ap_sSetN, VR.ap_sE, nl]
    rfl
  have a4 : sWhile SM.fuel (cCmp neD (cVar 5) (cFrz (nLst aNil))) b_reached_from_1 (env8 evens odds P (.own .pin (wT al)) [] [] al .no .no) = some (.nx (env8 evens odds P (.own .pin (wT al)) E O [] w6 w7)) := lp
  unfold g_reached_from
  show sSeq _ _ [.own .pin (wT al), .own .pin (nT evens odds), .own .pin (dT P), .no, .no, .no, .no, .no] = _
  rw [seq_nx (show sSetN 3 (nNew (.dt [])) [.own .pin (wT al), .own .pin (nT evens odds), .own .pin (dT P), .no, .no, .no, .no, .no] = some (.nx [.own .pin (wT al), .own .pin (nT evens odds), .own .pin (dT P), .own .free (.dt []), .no, .no, .no, .no]) from rfl),
    seq_nx (show sSetN 4 (nNew (.dt [])) [.own .pin (wT al), .own .pin (nT evens odds), .own .pin (dT P), .own .free (.dt []), .no, .no, .no, .no] = some (.nx [.own .pin (wT al), .own .pin (nT evens odds), .own .pin (dT P), .own .free (.dt []), .own .free (.dt []), .no, .no, .no]) from rfl), seq_nx a3, seq_nx a4]
  have n1 : isNode (sT E) = true := rfl
  have n2 : isNode (sT O) = true := rfl
  simp! only [setSl, List.replicate, pinS, Md.unb, VR.ap_fld1, VR.ap_pFld, VR.ap_pKey, VR.ap_keyT1, n1, n2, List.any_cons]
end
end AP

end

section
set_option Elab.async false
set_option linter.all false
set_option maxRecDepth 100000
set_option maxHeartbeats 2000000
namespace AP
open PySem PySem.Spec PyProof.Rows L2 VL SM SP SH SXA
noncomputable def evs (L : List Sn) : List Sn := L.filter fun s => !odd s
noncomputable def ods (L : List Sn) : List Sn := L.filter odd
noncomputable abbrev lD (L : List Sn) : PyData := .list (L.map Sn.D)
section
variable {L : List Sn}
theorem evs_sub (h : ∀ s ∈ L, s ∈ allS) : ∀ s ∈ evs L, s ∈ allS := fun s hs => h s (List.mem_filter.mp hs).1
theorem ods_sub (h : ∀ s ∈ L, s ∈ allS) : ∀ s ∈ ods L, s ∈ allS := fun s hs => h s (List.mem_filter.mp hs).1
theorem it_list {i : Nat} {ρ : Rho} {D : List Sn} (h : ρ[i]? = some (.val (lD D))) : iSeq (cVar i) ρ = some (.ok (D.map Sn.D) ρ) := by
  unfold iSeq bnd
  rw [VR.ap_cVar, h]
  rfl
theorem frz_of {f : M Tr} {ρ ρ1 : Rho} {t : Tr} {d : PyData} (h : f ρ = some (.ok t ρ1)) (td : t.toD = some d) : cFrz f ρ = some (.ok (.d d) ρ1) := by
  unfold cFrz bnd
  rw [h]
  show (match t.toD with
    | some d => some (Er.ok (Rv.d d) ρ1)
    | none => none) = _
  rw [td]
theorem comp_self {ρ : Rho} {i v : Nat} {D : List Sn} {tt : M Bool} {s : Sl} (p : Sn → Bool) (hi : ρ[i]? = some (.val (lD D))) (hl : D.length ≤ 100000) (hv : ρ[v]? = some s) (hs : unown s = true)
    (ht : ∀ d ∈ D, tt (ρ.set v (.val d.D)) = some (.ok (p d) (ρ.set v (.val d.D)))) (hx : ∀ d : Sn, cVar v (ρ.set v (.val d.D)) = some (.ok (.d d.D) (ρ.set v (.val d.D)))) :
    nComp (iSeq (cVar i)) [v] (gN v) tt (cVar v) ρ = some (.ok (wT (D.filter p)) ρ) := by
  have := comp_eq (D := Sn.D) (ds := D) (te := cVar v) p Sn.D (it_list hi) (by omega) hv hs ht fun d _ _ => hx d
  rw [this]
noncomputable abbrev env11 (L : List Sn) (v1 v2 v3 v4 v5 v6 v7 v8 v9 v10 : Sl) : Rho := [.val (lD L), v1, v2, v3, v4, v5, v6, v7, v8, v9, v10]
theorem td_wT {D : List Sn} : Tr.toD (wT D) = some (lD D) := toD_ds
theorem a1_ok (hL : ∀ s ∈ L, s ∈ allS) (ll : L.length ≤ 400) : sSet 1 (cFrz (nComp (iSeq (cVar 0)) [2] (gN 2) (cTest (cFrz (nCall [2] 1 SM.F_is_odd (aCons (cVar 2) aNil)))) (cVar 2))) (env11 L .no .no .no .no .no .no .no .no .no .no) = some (.nx (env11 L (.val (lD (ods L))) .no .no .no .no .no .no .no .no .no)) := by
  have c := comp_self (ρ := env11 L .no .no .no .no .no .no .no .no .no .no) (i := 0) (v := 2) (D := L) (s := .no) (tt := cTest (cFrz (nCall [2] 1 SM.F_is_odd (aCons (cVar 2) aNil)))) odd rfl (by omega) rfl rfl (fun d hd => by
    obtain ⟨outs, e⟩ := e_odd (hL d hd)
    show _ = some (Er.ok (odd d) (env11 L .no (.val d.D) .no .no .no .no .no .no .no .no))
    show cTest _ (env11 L .no (.val d.D) .no .no .no .no .no .no .no .no) = _
    simp! only [setSl, List.replicate, pinS, Md.unb, VR.ap_fld1, VR.ap_pFld, VR.ap_pKey, VR.ap_keyT1, e]) (fun _ => rfl)
  have td := td_wT (D := L.filter odd)
  generalize (nComp (iSeq (cVar 0)) [2] (gN 2) (cTest (cFrz (nCall [2] 1 SM.F_is_odd (aCons (cVar 2) aNil)))) (cVar 2)) = f at c ⊢
  simp! only [List.replicate, pinS, Md.unb, VR.ap_fld1, VR.ap_pFld, VR.ap_pKey, VR.ap_keyT1, c, td, setSl_f]
  rfl
theorem a2_ok (hL : ∀ s ∈ L, s ∈ allS) (ll : L.length ≤ 400) : sSet 3 (cFrz (nComp (iSeq (cVar 0)) [2] (gN 2) (cNot (cTest (cFrz (nCall [2] 1 SM.F_is_odd (aCons (cVar 2) aNil))))) (cVar 2))) (env11 L (.val (lD (ods L))) .no .no .no .no .no .no .no .no .no) = some (.nx (env11 L (.val (lD (ods L))) .no (.val (lD (evs L))) .no .no .no .no .no .no .no)) := by
  have c := comp_self (ρ := env11 L (.val (lD (ods L))) .no .no .no .no .no .no .no .no .no) (i := 0) (v := 2) (D := L) (s := .no) (tt := cNot (cTest (cFrz (nCall [2] 1 SM.F_is_odd (aCons (cVar 2) aNil))))) (fun s => !odd s) rfl (by omega) rfl rfl (fun d hd => by
    obtain ⟨outs, e⟩ := e_odd (hL d hd)
    show cNot _ (env11 L (.val (lD (ods L))) (.val d.D) .no .no .no .no .no .no .no .no) = some (Er.ok (!odd d) (env11 L (.val (lD (ods L))) (.val d.D) .no .no .no .no .no .no .no .no))
    simp! only [setSl, List.replicate, pinS, Md.unb, VR.ap_fld1, VR.ap_pFld, VR.ap_pKey, VR.ap_keyT1, e]) (fun _ => rfl)
  have td := td_wT (D := L.filter fun s => !odd s)
  generalize (nComp (iSeq (cVar 0)) [2] (gN 2) (cNot (cTest (cFrz (nCall [2] 1 SM.F_is_odd (aCons (cVar 2) aNil))))) (cVar 2)) = f at c ⊢
  simp! only [List.replicate, pinS, Md.unb, VR.ap_fld1, VR.ap_pFld, VR.ap_pKey, VR.ap_keyT1, c, td, setSl_f]
  rfl
noncomputable def vOk (v : Sl) : Prop := frB (some v) = true ∧ unown v = true
theorem near_body {O D : List Sn} {e : Sn} {v3 v6 : Sl} (hO : ∀ o ∈ O, o ∈ allS) (he : e ∈ allS) (lo : O.length ≤ 400) (ld : D.length ≤ 400) (hn : e ∉ D) :
    b_most_apart_1 (env11 L (.val (lD O)) (.val e.D) v3 (.own .free (nT D O)) .no v6 .no .no .no .no) = some (.nx (env11 L (.val (lD O)) (.val e.D) v3 (.own .free (nT (D ++ [e]) O)) .no v6 .no .no .no .no)) := by
  have c := comp_self (ρ := env11 L (.val (lD O)) (.val e.D) v3 (.own .free (nT D O)) .no v6 .no .no .no .no) (i := 1) (v := 5) (D := O) (s := .no) (tt := cTest (cFrz (nCall [2, 5] 2 SM.F_look_alike (aCons (cVar 2) (aCons (cVar 5) aNil))))) (fun o => decide (o ∈ likes e)) rfl (by omega) rfl rfl (fun o ho => by
    obtain ⟨outs, q⟩ := e_look he (hO o ho)
    show cTest _ (env11 L (.val (lD O)) (.val e.D) v3 (.own .free (nT D O)) (.val o.D) v6 .no .no .no .no) = some (Er.ok (decide (o ∈ likes e)) (env11 L (.val (lD O)) (.val e.D) v3 (.own .free (nT D O)) (.val o.D) v6 .no .no .no .no))
    simp! only [setSl, List.replicate, pinS, Md.unb, VR.ap_fld1, VR.ap_pFld, VR.ap_pKey, VR.ap_keyT1, q]) (fun _ => rfl)
  have td := td_wT (D := near O e)
  have fe : cFrz (nComp (iSeq (cVar 1)) [5] (gN 5) (cTest (cFrz (nCall [2, 5] 2 SM.F_look_alike (aCons (cVar 2) (aCons (cVar 5) aNil))))) (cVar 5)) (env11 L (.val (lD O)) (.val e.D) v3 (.own .free (nT D O)) .no v6 .no .no .no .no) = some (.ok (.d (lD (near O e))) (env11 L (.val (lD O)) (.val e.D) v3 (.own .free (nT D O)) .no v6 .no .no .no .no)) := frz_of c td
  have hk : ptP (nearP D O) e (lD (near O e)) = nearP (D ++ [e]) O := by
    unfold ptP
    rw [if_neg]
    · unfold nearP
      simp
    · rw [List.any_eq_true]
      rintro ⟨p, hp, q⟩
      obtain ⟨s, hs, rfl⟩ := List.mem_map.mp hp
      exact hn ((of_decide_eq_true q) ▸ hs)
  have p1 : dPut1 [] (lD (near O e)) (4, []) (.d e.D) (env11 L (.val (lD O)) (.val e.D) v3 (.own .free (nT D O)) .no v6 .no .no .no .no) = some (.nx (env11 L (.val (lD O)) (.val e.D) v3 (.own .free (nT (D ++ [e]) O)) .no v6 .no .no .no .no)) := by
    rw [put_row (m := .free) (P := nearP D O) rfl rfl (by unfold nearP; rw [List.length_map]; omega), hk]
    rfl
  exact dput_c fe rfl rfl p1
theorem near_loop {O : List Sn} {v3 v6 : Sl} (hO : ∀ o ∈ O, o ∈ allS) (lo : O.length ≤ 400) : ∀ (r D : List Sn) (v2 : Sl), (∀ e ∈ r, e ∈ allS) → (D ++ r).Nodup → (D ++ r).length ≤ 400 → vOk v2 →
    ∃ w2, vOk w2 ∧ loopF (gN 2) b_most_apart_1 (r.map Sn.D) (env11 L (.val (lD O)) v2 v3 (.own .free (nT D O)) .no v6 .no .no .no .no) = some (.nx (env11 L (.val (lD O)) w2 v3 (.own .free (nT (D ++ r) O)) .no v6 .no .no .no .no))
  | [], D, v2, _, _, _, h2 => ⟨v2, h2, by rw [List.append_nil]; rfl⟩
  | e :: r, D, v2, hr, hn, hl, h2 => by
    have hD : e ∉ D := fun z => (List.nodup_append.mp hn).2.2 e z e List.mem_cons_self rfl
    have ass : D ++ e :: r = D ++ [e] ++ r := by simp
    rw [ass] at hn hl
    obtain ⟨w2, g2, ih⟩ := near_loop hO lo r (D ++ [e]) (.val e.D) (fun x hx => hr x (List.mem_cons_of_mem _ hx)) hn hl ⟨rfl, rfl⟩
    refine ⟨w2, g2, ?_⟩
    rw [ass, List.map_cons, loop_cons (setSl_f h2.1) (near_body hO (hr e List.mem_cons_self) lo (by simp at hl; omega) hD)]
    exact ih
theorem ap_nCallX {Ts : List Nat} {m : Nat} {f : Fn} {fs : M (List Rv × Tr)} {ρ : Rho} : nCallX Ts m f fs ρ = (bnd fs (callX Ts m f)) ρ := rfl
theorem ap_callX {Ts : List Nat} {m : Nat} {f : Fn} {a : List Rv × Tr} {ρ : Rho} : callX Ts m f a ρ = if Ts.all (fun j => decide (j < ρ.length)) then (match callN (ρ.length :: Ts) m f (a.1 ++ [.o ρ.length]) (ρ ++ [.own .free a.2, .no]) with
  | some (.ok t ρ2) => some (.ok t (ρ2.take ρ.length))
  | _ => none) else none := rfl
theorem ap_xLast {f : M Tr} {ρ : Rho} : xLast f ρ = (bnd f fun t => VL.ret ([], t)) ρ := rfl
theorem ap_xCons {f : M Rv} {g : M (List Rv × Tr)} {ρ : Rho} : xCons f g ρ = (bnd f fun x => bnd g fun p => VL.ret (x :: p.1, p.2)) ρ := rfl
theorem findF {d : PyData} {a b c : Tr} : F_find_mate 190 [.val d, .own .free a, .own .free b, .own .free c] = F_find_mate 190 [.val d, .own .pin a, .own .pin b, .own .pin c] := rfl
section
variable {E O : List Sn} {s : Sn} {P P' : List (Sn × PyData)} {sn' al : List Sn} {v1 v3 : Sl}
theorem mate_call {b : Bool} (hF : F_find_mate 190 [.val s.D, .own .pin (nT E O), .own .pin (dT P), .own .pin (sT [])] = some (.ret (.dat (.bool b)), [.val s.D, .own .pin (nT E O), .own .pin (dT P'), .own .pin (sT sn')])) :
    nCallX [2, 4, 6] 4 (F_find_mate 190) (xCons (cVar 2) (xCons (cVar 4) (xCons (cVar 6) (xLast (nNew (.dt [])))))) (env11 L v1 (.val s.D) v3 (.own .free (nT E O)) .no (.own .free (dT P)) (.own .free (wT al)) .no .no .no) = some (.ok (.dat (.bool b)) (env11 L v1 (.val s.D) v3 (.own .free (nT E O)) .no (.own .free (dT P')) (.own .free (wT al)) .no .no .no)) := by
  have hF' : F_find_mate 190 [.val s.D, .own .free (nT E O), .own .free (dT P), .own .free (.dt [])] = some (.ret (.dat (.bool b)), [.val s.D, .own .pin (nT E O), .own .pin (dT P'), .own .pin (sT sn')]) := findF.trans hF
  generalize F_find_mate 190 = F at hF' ⊢
  simp! only [setSl, List.replicate, pinS, Md.unb, VR.ap_fld1, VR.ap_pFld, VR.ap_pKey, VR.ap_keyT1, ap_nCallX, ap_callX, ap_xLast, ap_xCons, cv_dT, hF']
theorem mate_body {b : Bool} (hs : s ∈ allS) (ha : al.length ≤ 400) (hF : F_find_mate 190 [.val s.D, .own .pin (nT E O), .own .pin (dT P), .own .pin (sT [])] = some (.ret (.dat (.bool b)), [.val s.D, .own .pin (nT E O), .own .pin (dT P'), .own .pin (sT sn')])) :
    b_most_apart_0 (env11 L v1 (.val s.D) v3 (.own .free (nT E O)) .no (.own .free (dT P)) (.own .free (wT al)) .no .no .no) = some (.nx (env11 L v1 (.val s.D) v3 (.own .free (nT E O)) .no (.own .free (dT P')) (.own .free (wT (if b then al else al ++ [s]))) .no .no .no)) := by
  have mc := mate_call (L := L) (v1 := v1) (v3 := v3) (al := al) hF
  have c1 : cNot (cTest (cFrz (nCallX [2, 4, 6] 4 (F_find_mate 190) (xCons (cVar 2) (xCons (cVar 4) (xCons (cVar 6) (xLast (nNew (.dt []))))))))) (env11 L v1 (.val s.D) v3 (.own .free (nT E O)) .no (.own .free (dT P)) (.own .free (wT al)) .no .no .no) = some (.ok (!b) (env11 L v1 (.val s.D) v3 (.own .free (nT E O)) .no (.own .free (dT P')) (.own .free (wT al)) .no .no .no)) := by
    generalize nCallX [2, 4, 6] 4 (F_find_mate 190) (xCons (cVar 2) (xCons (cVar 4) (xCons (cVar 6) (xLast (nNew (.dt [])))))) = f at mc ⊢
    simp! only [setSl, List.replicate, pinS, Md.unb, VR.ap_fld1, VR.ap_pFld, VR.ap_pKey, VR.ap_keyT1, mc]
  unfold b_most_apart_0
  cases b with
  | true =>
    rw [if_n c1]
    rfl
  | false =>
    rw [if_t c1]
    have sm : small (((al.map Sn.D).map Tr.dat).length + 1) = true := small_of (by simp; omega)
    have ew : wT (al ++ [s]) = .lst ((al.map Sn.D).map .dat ++ [Tr.dat s.D]) := by unfold wT; simp
    show _ = some (Out.nx (env11 L v1 (.val s.D) v3 (.own .free (nT E O)) .no (.own .free (dT P')) (.own .free (wT (al ++ [s]))) .no .no .no))
    rw [ew]
    generalize hL : (al.map Sn.D).map Tr.dat = A at sm ⊢
    show sApp [] (pVar 7) (nDat (cVar 2)) [.val (lD L), v1, .val s.D, v3, .own .free (nT E O), .no, .own .free (dT P'), .own .free (.lst ((al.map Sn.D).map Tr.dat)), .no, .no, .no] = _
    rw [hL]
    simp! only [setSl, List.replicate, pinS, Md.unb, VR.ap_fld1, VR.ap_pFld, VR.ap_pKey, VR.ap_keyT1, sm]
    rfl
end
theorem FR'.fresh {E O : List Sn} {M : MT.Mt Sn} {sn : List Sn} {P : List (Sn × PyData)} (h : FR' E O M sn P) : FR' E O M [] P := ⟨h.rep, h.ko, h.rng, List.nodup_nil, fun _ h => nomatch h⟩
theorem mate_loop {E O : List Sn} {v1 v3 : Sl} (hE : ∀ e ∈ E, e ∈ allS) (lo : O.length ≤ 400) : ∀ (r : List Sn) (M : MT.Mt Sn) (al : List Sn) (M' : MT.Mt Sn) (al' : List Sn) (P : List (Sn × PyData)) (v2 : Sl), MT.run (near O) 190 r M al = some (M', al') → (∀ e ∈ r, e ∈ E) → al.length + r.length ≤ 400 → FR' E O M [] P → vOk v2 →
    ∃ P' w2, vOk w2 ∧ FR' E O M' [] P' ∧ loopF (gN 2) b_most_apart_0 (r.map Sn.D) (env11 L v1 v2 v3 (.own .free (nT E O)) .no (.own .free (dT P)) (.own .free (wT al)) .no .no .no) = some (.nx (env11 L v1 w2 v3 (.own .free (nT E O)) .no (.own .free (dT P')) (.own .free (wT al')) .no .no .no))
  | [], M, al, M', al', P, v2, h, _, _, R, h2 => by
    unfold MT.run at h
    cases h
    exact ⟨P, v2, h2, R, rfl⟩
  | s :: r, M, al, M', al', P, v2, h, hr, hl, R, h2 => by
    have hs := hr s List.mem_cons_self
    have hr' : ∀ e ∈ r, e ∈ E := fun e he => hr e (List.mem_cons_of_mem _ he)
    rw [List.length_cons] at hl
    unfold MT.run at h
    cases hf : MT.find (near O) 190 s M [] with
    | none => rw [hf] at h; cases h
    | some q =>
      obtain ⟨b, M1, sn1⟩ := q
      rw [hf] at h
      obtain ⟨P1, R1, e1⟩ := find_run (evens := E) (odds := O) (by omega) 190 s M [] b M1 sn1 P hf hs R
      have bd := mate_body (L := L) (v1 := v1) (v3 := v3) (al := al) (hE s hs) (by omega) e1
      rw [List.map_cons]
      cases b with
      | true =>
        obtain ⟨P', w2, g2, R', ih⟩ := mate_loop hE lo r M1 al M' al' P1 (.val s.D) h hr' (by omega) R1.fresh ⟨rfl, rfl⟩
        exact ⟨P', w2, g2, R', by rw [loop_cons (setSl_f h2.1) bd]; exact ih⟩
      | false =>
        obtain ⟨P', w2, g2, R', ih⟩ := mate_loop hE lo r M1 (al ++ [s]) M' al' P1 (.val s.D) h hr' (by simp; omega) R1.fresh ⟨rfl, rfl⟩
        exact ⟨P', w2, g2, R', by rw [loop_cons (setSl_f h2.1) bd]; exact ih⟩
end
end AP

end

section
set_option Elab.async false
set_option linter.all false
set_option maxRecDepth 100000
set_option maxHeartbeats 2000000
namespace AP
open PySem PySem.Spec PyProof.Rows L2 VL SM SP SH SXA
structure Apart (L kept : List Sn) (M : MT.Mt Sn) : Prop where
  sub : ∃ p : Sn → Bool, kept = L.filter p
  ct : kept.length + (MT.mtd (ods L) M).length = L.length
  ind : ∀ e ∈ kept, ∀ o ∈ kept, o ∉ likes e
  most : ∀ T : List Sn, T.Nodup → (∀ x ∈ T, x ∈ L) → (∀ e ∈ T, ∀ o ∈ T, o ∉ likes e) → T.length ≤ kept.length
  adj : ∀ o e, M o = some e → o ∈ likes e ∧ e ∈ L ∧ o ∈ L
  inj : ∀ o o' e, M o = some e → M o' = some e → o = o'
noncomputable def pairD (M : MT.Mt Sn) (o : Sn) : PyData := match M o with
  | some e => .tuple [e.D, o.D]
  | none => .none
noncomputable def pairT (L : List Sn) (M : MT.Mt Sn) : Tr := .lst (((MT.mtd (ods L) M).map (pairD M)).map .dat)
theorem near_sub {O : List Sn} : ∀ e, ∀ x ∈ near O e, x ∈ O := fun e x hx => (List.mem_filter.mp hx).1
theorem near_mem {O : List Sn} {e o : Sn} : o ∈ near O e ↔ o ∈ O ∧ o ∈ likes e := by unfold near; rw [List.mem_filter]; simp
theorem reachF {a b c : Tr} : F_reached_from [.own .free a, .own .free b, .own .free c] = F_reached_from [.own .pin a, .own .pin b, .own .pin c] := rfl
theorem ev_od {L : List Sn} : (L.filter fun x => !(fun s => !odd s) x) = ods L := by
  unfold ods
  exact List.filter_congr fun x _ => by simp
theorem plain {L : List Sn} (hL : ∀ s ∈ L, s ∈ allS) (ln : L.Nodup) (ll : L.length ≤ 400) (lo : (ods L).length ≤ 189) (le : (evs L).length ≤ 189) :
    ∃ M al E O kept, MT.run (near (ods L)) 190 (evs L) (fun _ => none) [] = some (M, al) ∧ MT.reach (near (ods L)) M 190 [] [] al = some (E, O) ∧ kept = L.filter (fun s => decide (s ∈ E) || (odd s && !decide (s ∈ O))) ∧ Apart L kept M ∧ (∀ w ∈ al, w ∈ evs L) ∧ (∀ o e, M o = some e → e ∈ evs L ∧ o ∈ ods L) ∧ al.length ≤ 400 ∧ (∀ s ∈ E, s ∈ allS) ∧ (∀ s ∈ O, s ∈ allS) := by
  have en : (evs L).Nodup := ln.filter _
  have on : (ods L).Nodup := ln.filter _
  obtain ⟨M, al, h1, I⟩ := MT.run_ok (near := near (ods L)) (n := 190) on near_sub (by omega) (evs L) [] (fun _ => none) [] MT.RInv.nil (by simpa using en)
  rw [List.nil_append] at I
  obtain ⟨CC, c1, c2⟩ := I.cc
  obtain ⟨E, O, h2, J⟩ := MT.reach_ok I c1 190 [] [] al (MT.QInv.start I c2) (by simp; omega)
  have I' : MT.RInv (near (ods L)) (L.filter fun x => !(fun s => !odd s) x) (L.filter fun s => !odd s) M al := by rw [ev_od]; exact I
  have J' : MT.QInv (near (ods L)) (L.filter fun s => !odd s) (L.filter fun x => !(fun s => !odd s) x) M al CC E O [] [] := by rw [ev_od]; exact J
  have K := MT.kept_ok (ev := fun s => !odd s) ln I' J'
  have ek : (L.filter fun s => decide (s ∈ E) || (!(fun s => !odd s) s && !decide (s ∈ O))) = L.filter (fun s => decide (s ∈ E) || (odd s && !decide (s ∈ O))) := List.filter_congr fun s _ => by simp
  rw [ek] at K
  have hct : (L.filter (fun s => decide (s ∈ E) || (odd s && !decide (s ∈ O)))).length + (MT.mtd (ods L) M).length = L.length := by
    have := K.ct
    rwa [ev_od] at this
  have ks : ∀ s ∈ L.filter (fun s => decide (s ∈ E) || (odd s && !decide (s ∈ O))), s ∈ L := fun s hs => (List.mem_filter.mp hs).1
  -- neighbours are of unlike kinds
  have key : ∀ T : List Sn, (∀ x ∈ T, x ∈ L) → ((∀ e ∈ T, ∀ o ∈ T, o ∉ likes e) ↔ ∀ e ∈ T, (!odd e) = true → ∀ o ∈ T, (!odd o) = false → o ∉ near (ods L) e) := fun T hT => by
    constructor
    · intro h e he _ o ho _ z
      exact h e he o ho (near_mem.mp z).2
    · intro h e he o ho z
      obtain ⟨a1, a2, a3⟩ := like_ok (hL e (hT e he)) z
      cases q : odd e with
      | false =>
        rw [q] at a3
        exact h e he (by rw [q]; rfl) o ho (by rw [a3]; rfl) (near_mem.mpr ⟨List.mem_filter.mpr ⟨hT o ho, a3⟩, z⟩)
      | true =>
        rw [q] at a3
        exact h o ho (by rw [a3]; rfl) e he (by rw [q]; rfl) (near_mem.mpr ⟨List.mem_filter.mpr ⟨hT e he, q⟩, a2⟩)
  refine ⟨M, al, E, O, _, h1, h2, rfl, ⟨⟨_, rfl⟩, hct, (key _ ks).mpr K.ind, fun T tn ts ti => ?_, fun o e h => ?_, I.ok.inj⟩, I.alP, I.rng, ?_, fun s hs => ?_, fun s hs => hL s (List.mem_filter.mp (J.on s hs)).1⟩
  · have := MT.most (ev := fun s => !odd s) ln I' tn ts ((key T ts).mp ti)
    rw [ev_od] at this
    omega
  · obtain ⟨r1, r2⟩ := I.rng o e h
    exact ⟨(near_mem.mp (I.ok.adj o e h)).2, (List.mem_filter.mp r1).1, (List.mem_filter.mp r2).1⟩
  · have := MT.nodup_len I.nd I.alP
    omega
  · exact hL s (List.mem_filter.mp (J.src s (List.mem_append_left _ hs)).1).1
theorem e_most {L : List Sn} (hL : ∀ s ∈ L, s ∈ allS) (ln : L.Nodup) (ll : L.length ≤ 400) (lo : (ods L).length ≤ 189) (le : (evs L).length ≤ 189) :
    ∃ kept M outs, Apart L kept M ∧ F_most_apart [.val (lD L)] = some (.ret (.tup [wT kept, pairT L M]), outs) := by
  obtain ⟨M, al, E, O, kept, h1, h2, hk, A, alE, rng, lal, eS, oS⟩ := plain hL ln ll lo le
  refine ⟨kept, M, [.val (lD L)], A, ?_⟩
  have R0 : FR' (evs L) (ods L) (fun _ => none) [] [] := ⟨fun _ => rfl, KO.nil, fun _ _ h => (nomatch h), List.nodup_nil, fun _ h => (nomatch h)⟩
  obtain ⟨w2, g2, lp1⟩ := near_loop (L := L) (O := ods L) (v3 := .val (lD (evs L))) (v6 := .no) (ods_sub hL) (by omega) (evs L) [] .no (evs_sub hL) (show (evs L).Nodup from ln.filter _) (by simp; omega) ⟨rfl, rfl⟩
  obtain ⟨P, w2', g2', R, lp2⟩ := mate_loop (L := L) (E := evs L) (O := ods L) (v1 := .val (lD (ods L))) (v3 := .val (lD (evs L))) (evs_sub hL) (by omega) (evs L) (fun _ => none) [] M al [] w2 h1 (fun _ h => h) (by simp; omega) R0 g2
  have rf := e_reached R.rep (by omega) (fun o e h => (rng o e h).1) (evs_sub hL) alE lal (Nat.le_refl _) h2
  rw [← reachF] at rf
  have a3 : sSetN 4 (nNew (.dt [])) (env11 L (.val (lD (ods L))) .no (.val (lD (evs L))) .no .no .no .no .no .no .no) = some (.nx (env11 L (.val (lD (ods L))) .no (.val (lD (evs L))) (.own .free (nT [] (ods L))) .no .no .no .no .no .no)) := rfl
  have a4 : sFor (iSeq (cVar 3)) (gN 2) b_most_apart_1 (env11 L (.val (lD (ods L))) .no (.val (lD (evs L))) (.own .free (nT [] (ods L))) .no .no .no .no .no .no) = some (.nx (env11 L (.val (lD (ods L))) w2 (.val (lD (evs L))) (.own .free (nT (evs L) (ods L))) .no .no .no .no .no .no)) := for_ok (it_list rfl) lp1
  have a5 : sSetN 6 (nNew (.dt [])) (env11 L (.val (lD (ods L))) w2 (.val (lD (evs L))) (.own .free (nT (evs L) (ods L))) .no .no .no .no .no .no) = some (.nx (env11 L (.val (lD (ods L))) w2 (.val (lD (evs L))) (.own .free (nT (evs L) (ods L))) .no (.own .free (dT [])) .no .no .no .no)) := rfl
  have a6 : sSetN 7 (nLst aNil) (env11 L (.val (lD (ods L))) w2 (.val (lD (evs L))) (.own .free (nT (evs L) (ods L))) .no (.own .free (dT [])) .no .no .no .no) = some (.nx (env11 L (.val (lD (ods L))) w2 (.val (lD (evs L))) (.own .free (nT (evs L) (ods L))) .no (.own .free (dT [])) (.own .free (wT [])) .no .no .no)) := rfl
  have a7 : sFor (iSeq (cVar 3)) (gN 2) b_most_apart_0 (env11 L (.val (lD (ods L))) w2 (.val (lD (evs L))) (.own .free (nT (evs L) (ods L))) .no (.own .free (dT [])) (.own .free (wT [])) .no .no .no) = some (.nx (env11 L (.val (lD (ods L))) w2' (.val (lD (evs L))) (.own .free (nT (evs L) (ods L))) .no (.own .free (dT P)) (.own .free (wT al)) .no .no .no)) := for_ok (it_list rfl) lp2
  have a8 : sUnp 8 9 (nCall [7, 4, 6] 3 F_reached_from (aCons (cVar 7) (aCons (cVar 4) (aCons (cVar 6) aNil)))) (env11 L (.val (lD (ods L))) w2' (.val (lD (evs L))) (.own .free (nT (evs L) (ods L))) .no (.own .free (dT P)) (.own .free (wT al)) .no .no .no) = some (.nx (env11 L (.val (lD (ods L))) w2' (.val (lD (evs L))) (.own .free (nT (evs L) (ods L))) .no (.own .free (dT P)) (.own .free (wT al)) (.own .free (sT E)) (.own .free (sT O)) .no)) := by
    have q1 : asSl (sT E) = .own .free (sT E) := rfl
    have q2 : asSl (sT O) = .own .free (sT O) := rfl
    simp! only [setSl, List.replicate, pinS, Md.unb, VR.ap_fld1, VR.ap_pFld, VR.ap_pKey, VR.ap_keyT1, cv_dT, rf, q1, q2]
  have cc := comp_self (ρ := env11 L (.val (lD (ods L))) w2' (.val (lD (evs L))) (.own .free (nT (evs L) (ods L))) .no (.own .free (dT P)) (.own .free (wT al)) (.own .free (sT E)) (.own .free (sT O)) .no) (i := 0) (v := 2) (D := L) (s := w2') (tt := cOr (cDIn false (cVar 2) (pVar 8)) (cAnd (cTest (cFrz (nCall [2] 1 SM.F_is_odd (aCons (cVar 2) aNil)))) (cDIn true (cVar 2) (pVar 9)))) (fun s => decide (s ∈ E) || (odd s && !decide (s ∈ O))) rfl (by omega) rfl g2'.2 (fun d hd => by
    obtain ⟨outs, e⟩ := e_odd (hL d hd)
    have x1 : dictAt (sT E) d.D = some (if d ∈ E then some (.bool true) else none) := by rw [at_dT, lk_seen]
    have x2 : dictAt (sT O) d.D = some (if d ∈ O then some (.bool true) else none) := by rw [at_dT, lk_seen]
    show cOr _ _ (env11 L (.val (lD (ods L))) (.val d.D) (.val (lD (evs L))) (.own .free (nT (evs L) (ods L))) .no (.own .free (dT P)) (.own .free (wT al)) (.own .free (sT E)) (.own .free (sT O)) .no) = some (Er.ok _ (env11 L (.val (lD (ods L))) (.val d.D) (.val (lD (evs L))) (.own .free (nT (evs L) (ods L))) .no (.own .free (dT P)) (.own .free (wT al)) (.own .free (sT E)) (.own .free (sT O)) .no))
    by_cases hE : d ∈ E
    · rw [if_pos hE] at x1
      have : decide (d ∈ E) = true := by simp [hE]
      rw [this]
      simp! only [setSl, List.replicate, pinS, Md.unb, VR.ap_fld1, VR.ap_pFld, VR.ap_pKey, VR.ap_keyT1, x1]
    · rw [if_neg hE] at x1
      have h0 : decide (d ∈ E) = false := by simp [hE]
      rw [h0]
      cases ho : odd d with
      | false =>
        rw [ho] at e
        simp! only [setSl, List.replicate, pinS, Md.unb, VR.ap_fld1, VR.ap_pFld, VR.ap_pKey, VR.ap_keyT1, x1, e]
      | true =>
        rw [ho] at e
        by_cases hO : d ∈ O
        · rw [if_pos hO] at x2
          have h1 : decide (d ∈ O) = true := by simp [hO]
          rw [h1]
          simp! only [setSl, List.replicate, pinS, Md.unb, VR.ap_fld1, VR.ap_pFld, VR.ap_pKey, VR.ap_keyT1, x1, x2, e]
        · rw [if_neg hO] at x2
          have h1 : decide (d ∈ O) = false := by simp [hO]
          rw [h1]
          simp! only [setSl, List.replicate, pinS, Md.unb, VR.ap_fld1, VR.ap_pFld, VR.ap_pKey, VR.ap_keyT1, x1, x2, e]) (fun _ => rfl)
  rw [← hk] at cc
  have a9 : sSetN 10 (nComp (iSeq (cVar 0)) [2] (gN 2) (cOr (cDIn false (cVar 2) (pVar 8)) (cAnd (cTest (cFrz (nCall [2] 1 SM.F_is_odd (aCons (cVar 2) aNil)))) (cDIn true (cVar 2) (pVar 9)))) (cVar 2)) (env11 L (.val (lD (ods L))) w2' (.val (lD (evs L))) (.own .free (nT (evs L) (ods L))) .no (.own .free (dT P)) (.own .free (wT al)) (.own .free (sT E)) (.own .free (sT O)) .no) = some (.nx (env11 L (.val (lD (ods L))) w2' (.val (lD (evs L))) (.own .free (nT (evs L) (ods L))) .no (.own .free (dT P)) (.own .free (wT al)) (.own .free (sT E)) (.own .free (sT O)) (.own .free (wT kept)))) := by
    simp only [VR.ap_sSetN, VR.ap_sE, cc]
    rfl
  have cp := comp_eq (D := Sn.D) (ds := ods L) (v := 5) (s := .no) (ρ := env11 L (.val (lD (ods L))) w2' (.val (lD (evs L))) (.own .free (nT (evs L) (ods L))) .no (.own .free (dT P)) (.own .free (wT al)) (.own .free (sT E)) (.own .free (sT O)) (.own .free .hole)) (tt := cDIn false (cVar 5) (pVar 6)) (te := cTup (aCons (cDGet [] (pVar 6) (cVar 5)) (aCons (cVar 5) aNil))) (fun o => (M o).isSome) (pairD M) (it_list (i := 1) rfl) (by omega) rfl rfl (fun o _ => by
    have x1 : dictAt (dT P) o.D = some ((M o).map Sn.D) := by rw [at_dT, R.rep o]
    show cDIn _ _ _ (env11 L (.val (lD (ods L))) w2' (.val (lD (evs L))) (.own .free (nT (evs L) (ods L))) (.val o.D) (.own .free (dT P)) (.own .free (wT al)) (.own .free (sT E)) (.own .free (sT O)) (.own .free .hole)) = some (Er.ok _ (env11 L (.val (lD (ods L))) w2' (.val (lD (evs L))) (.own .free (nT (evs L) (ods L))) (.val o.D) (.own .free (dT P)) (.own .free (wT al)) (.own .free (sT E)) (.own .free (sT O)) (.own .free .hole)))
    cases hM : M o with
    | none =>
      rw [hM] at x1
      have x1 : dictAt (dT P) o.D = some none := x1
      simp! only [setSl, List.replicate, pinS, Md.unb, VR.ap_fld1, VR.ap_pFld, VR.ap_pKey, VR.ap_keyT1, x1]
    | some e =>
      rw [hM] at x1
      have x1 : dictAt (dT P) o.D = some (some e.D) := x1
      simp! only [setSl, List.replicate, pinS, Md.unb, VR.ap_fld1, VR.ap_pFld, VR.ap_pKey, VR.ap_keyT1, x1]) (fun o _ hp => by
    obtain ⟨e, he⟩ := Option.isSome_iff_exists.mp hp
    have x1 : dictAt (dT P) o.D = some (some e.D) := by rw [at_dT, R.rep o, he]; rfl
    unfold pairD
    rw [he]
    show cTup _ (env11 L (.val (lD (ods L))) w2' (.val (lD (evs L))) (.own .free (nT (evs L) (ods L))) (.val o.D) (.own .free (dT P)) (.own .free (wT al)) (.own .free (sT E)) (.own .free (sT O)) (.own .free .hole)) = some (Er.ok _ (env11 L (.val (lD (ods L))) w2' (.val (lD (evs L))) (.own .free (nT (evs L) (ods L))) (.val o.D) (.own .free (dT P)) (.own .free (wT al)) (.own .free (sT E)) (.own .free (sT O)) (.own .free .hole)))
    simp! only [setSl, List.replicate, pinS, Md.unb, VR.ap_fld1, VR.ap_pFld, VR.ap_pKey, VR.ap_keyT1, x1])
  have cp' : nComp (iSeq (cVar 1)) [5] (gN 5) (cDIn false (cVar 5) (pVar 6)) (cTup (aCons (cDGet [] (pVar 6) (cVar 5)) (aCons (cVar 5) aNil))) (env11 L (.val (lD (ods L))) w2' (.val (lD (evs L))) (.own .free (nT (evs L) (ods L))) .no (.own .free (dT P)) (.own .free (wT al)) (.own .free (sT E)) (.own .free (sT O)) (.own .free .hole)) = some (.ok (pairT L M) (env11 L (.val (lD (ods L))) w2' (.val (lD (evs L))) (.own .free (nT (evs L) (ods L))) .no (.own .free (dT P)) (.own .free (wT al)) (.own .free (sT E)) (.own .free (sT O)) (.own .free .hole))) := cp
  refine (run_rt (t := .tup [wT kept, pairT L M]) (ρ' := env11 L (.val (lD (ods L))) w2' (.val (lD (evs L))) (.own .free (nT (evs L) (ods L))) .no (.own .free (dT P)) (.own .free (wT al)) (.own .free (sT E)) (.own .free (sT O)) (.own .free .hole)) ?_).trans rfl
  unfold g_most_apart
  show sSeq _ _ (env11 L .no .no .no .no .no .no .no .no .no .no) = _
  rw [seq_nx (a1_ok hL ll), seq_nx (a2_ok hL ll), seq_nx a3, seq_nx a4, seq_nx a5, seq_nx a6, seq_nx a7, seq_nx a8, seq_nx a9]
  have n1 : isNode (wT kept) = true := rfl
  have n2 : isNode (pairT L M) = true := rfl
  generalize nComp (iSeq (cVar 1)) [5] (gN 5) (cDIn false (cVar 5) (pVar 6)) (cTup (aCons (cDGet [] (pVar 6) (cVar 5)) (aCons (cVar 5) aNil))) = f at cp' ⊢
  simp! only [setSl, List.replicate, pinS, Md.unb, VR.ap_fld1, VR.ap_pFld, VR.ap_pKey, VR.ap_keyT1, cp', n1, n2, List.any_cons]
end AP

end

section
set_option Elab.async false
set_option linter.all false
set_option maxRecDepth 100000
set_option maxHeartbeats 2000000
namespace K05
open PySem PySem.Spec PyProof.Rows L2 VL SM SN SXA SP SH AP
theorem sh_lD {W : List AP.Sn} (h : ∀ s ∈ W, s ∈ allS) : Sh 2 (AP.lD W) := Sh.list fun d hd => by
  obtain ⟨w, hw, rfl⟩ := List.mem_map.mp hd
  exact sh_sn (h w hw)
theorem in_D {s : AP.Sn} {W : List AP.Sn} (hs : s ∈ allS) (h : ∀ s ∈ W, s ∈ allS) : inD s.D (AP.lD W) = some (decide (s ∈ W)) := by
  show (if SeqAt.shaped s.D && SeqAt.shaped (AP.lD W) then some ((W.map AP.Sn.D).any fun z => PyData.eqv z s.D) else none) = _
  rw [(sh_sn hs).ok (by decide), (sh_lD h).ok (by decide)]
  show some ((W.map AP.Sn.D).any fun z => PyData.eqv z s.D) = _
  congr 1
  rw [List.any_map, Bool.eq_iff_iff, List.any_eq_true, decide_eq_true_eq]
  constructor
  · rintro ⟨z, hz, q⟩
    have q : PyData.eqv z.D s.D = true := q
    rw [eqv_D (h z hz) hs, decide_eq_true_eq] at q
    exact q ▸ hz
  · intro hw
    exact ⟨s, hw, by show PyData.eqv s.D s.D = true; rw [eqv_D hs hs]; simp⟩
theorem notIn_D {s : AP.Sn} {W : List AP.Sn} (hs : s ∈ allS) (h : ∀ s ∈ W, s ∈ allS) : notInD s.D (AP.lD W) = some (!decide (s ∈ W)) := by
  unfold notInD
  rw [in_D hs h]
  rfl
theorem ln_D {W : List AP.Sn} : lenD [AP.lD W] = some (.int (W.length : Nat)) := by
  show some (PyData.int ((W.map AP.Sn.D).length : Nat)) = _
  rw [List.length_map]
theorem likes_all {s : AP.Sn} (hs : s ∈ allS) : ∀ t ∈ likes s, t ∈ allS := fun t ht => (like_ok hs ht).1
theorem likes_pos {s : AP.Sn} : 1 ≤ (likes s).length ∧ (likes s).length ≤ 4 := by
  unfold likes
  simp only [List.length_append, List.length_singleton]
  constructor
  · omega
  · split <;> split <;> simp
noncomputable abbrev PD (p : AP.Sn × AP.Sn) : PyData := .tuple [p.1.D, p.2.D]
noncomputable def used (ps : List (AP.Sn × AP.Sn)) : List AP.Sn := ps.flatMap fun p => [p.1, p.2]
theorem pairs_of {M : MT.Mt AP.Sn} : ∀ l : List AP.Sn, (∀ o ∈ l, (M o).isSome = true) → ∃ ps : List (AP.Sn × AP.Sn), ps.map (·.2) = l ∧ (∀ p ∈ ps, M p.2 = some p.1) ∧ l.map (AP.pairD M) = ps.map PD
  | [], _ => ⟨[], rfl, (fun _ h => by simp at h), rfl⟩
  | o :: l, h => by
    obtain ⟨ps, h1, h2, h3⟩ := pairs_of l fun x hx => h x (List.mem_cons_of_mem _ hx)
    obtain ⟨e, he⟩ := Option.isSome_iff_exists.mp (h o List.mem_cons_self)
    refine ⟨(e, o) :: ps, by rw [List.map_cons, h1], fun p hp => ?_, ?_⟩
    · rcases List.mem_cons.mp hp with z | z
      · rw [z]; exact he
      · exact h2 p z
    · rw [List.map_cons, List.map_cons, h3]
      unfold AP.pairD
      rw [he]
theorem mem_used {ps : List (AP.Sn × AP.Sn)} {x : AP.Sn} : x ∈ used ps ↔ ∃ p ∈ ps, x = p.1 ∨ x = p.2 := by
  unfold used
  rw [List.mem_flatMap]
  simp
theorem used_len {ps : List (AP.Sn × AP.Sn)} : (used ps).length = 2 * ps.length := by
  induction ps with
  | nil => rfl
  | cons p ps ih =>
    show (p.1 :: p.2 :: used ps).length = _
    rw [List.length_cons, List.length_cons, ih, List.length_cons]
    omega
theorem used_nd {M : MT.Mt AP.Sn} (inj : ∀ o o' e, M o = some e → M o' = some e → o = o') (par : ∀ o e, M o = some e → odd e = !odd o) : ∀ ps : List (AP.Sn × AP.Sn), (∀ p ∈ ps, M p.2 = some p.1) → (∀ p ∈ ps, odd p.2 = true) → (ps.map (·.2)).Nodup → (used ps).Nodup
  | [], _, _, _ => List.nodup_nil
  | p :: ps, h1, h2, nd => by
    rw [List.map_cons, List.nodup_cons] at nd
    have ih := used_nd inj par ps (fun q hq => h1 q (List.mem_cons_of_mem _ hq)) (fun q hq => h2 q (List.mem_cons_of_mem _ hq)) nd.2
    have m0 := h1 p List.mem_cons_self
    have o0 := h2 p List.mem_cons_self
    have e0 : odd p.1 = false := by rw [par _ _ m0, o0]; rfl
    have n2 : ∀ q ∈ ps, p.2 ≠ q.2 := fun q hq e => nd.1 (by rw [e]; exact List.mem_map_of_mem hq)
    have m1 : ∀ q ∈ ps, M q.2 = some q.1 := fun q hq => h1 q (List.mem_cons_of_mem _ hq)
    have o1 : ∀ q ∈ ps, odd q.2 = true := fun q hq => h2 q (List.mem_cons_of_mem _ hq)
    have e1 : ∀ q ∈ ps, odd q.1 = false := fun q hq => by rw [par _ _ (m1 q hq), o1 q hq]; rfl
    show (p.1 :: p.2 :: used ps).Nodup
    rw [List.nodup_cons, List.nodup_cons]
    refine ⟨fun z => ?_, fun z => ?_, ih⟩
    · rcases List.mem_cons.mp z with z | z
      · rw [z, o0] at e0
        cases e0
      · obtain ⟨q, hq, e | e⟩ := mem_used.mp z
        · exact n2 q hq (inj _ _ p.1 m0 (by rw [e]; exact m1 q hq))
        · rw [e, o1 q hq] at e0
          cases e0
    · obtain ⟨q, hq, e | e⟩ := mem_used.mp z
      · rw [e, e1 q hq] at o0
        cases o0
      · exact n2 q hq e
structure Right (L kept : List AP.Sn) (ps : List (AP.Sn × AP.Sn)) : Prop where
  sub : ∀ x ∈ kept, x ∈ L
  fil : L.filter (fun x => decide (x ∈ kept)) = kept
  ind : ∀ e ∈ kept, ∀ o ∈ kept, o ∉ likes e
  nd : (used ps).Nodup
  us : ∀ x ∈ used ps, x ∈ L
  lk : ∀ p ∈ ps, p.2 ∈ likes p.1
  ct : kept.length + ps.length = L.length
noncomputable abbrev PsD (ps : List (AP.Sn × AP.Sn)) : PyData := .list (ps.map PD)
theorem right_of {L kept : List AP.Sn} {M : MT.Mt AP.Sn} (A : Apart L kept M) (ln : L.Nodup) (hL : ∀ s ∈ L, s ∈ allS) : ∃ ps, Right L kept ps ∧ Tr.toD (.tup [AP.wT kept, pairT L M]) = some (.tuple [AP.lD kept, PsD ps]) := by
  obtain ⟨ps, h1, h2, h3⟩ := pairs_of (M := M) (MT.mtd (ods L) M) fun o ho => (List.mem_filter.mp ho).2
  have od : ∀ p ∈ ps, p.2 ∈ ods L := fun p hp => by
    have : p.2 ∈ MT.mtd (ods L) M := by rw [← h1]; exact List.mem_map_of_mem hp
    exact (List.mem_filter.mp this).1
  have par : ∀ o e, M o = some e → odd e = !odd o := fun o e h => by
    obtain ⟨a, b, c⟩ := A.adj o e h
    have := (like_ok (hL e b) a).2.2
    rw [this]
    simp
  refine ⟨ps, ⟨?_, ?_, A.ind, used_nd A.inj par ps h2 (fun p hp => (List.mem_filter.mp (od p hp)).2) ?_, fun x hx => ?_, fun p hp => (A.adj _ _ (h2 p hp)).1, ?_⟩, ?_⟩
  · obtain ⟨p, rfl⟩ := A.sub
    exact fun x hx => (List.mem_filter.mp hx).1
  · obtain ⟨p, rfl⟩ := A.sub
    refine List.filter_congr fun x hx => ?_
    rw [Bool.eq_iff_iff, decide_eq_true_eq, List.mem_filter]
    exact ⟨fun h => h.2, fun h => ⟨hx, h⟩⟩
  · rw [h1]
    exact (ln.filter _).filter _
  · obtain ⟨p, hp, e | e⟩ := mem_used.mp hx
    · rw [e]; exact (A.adj _ _ (h2 p hp)).2.1
    · rw [e]; exact (A.adj _ _ (h2 p hp)).2.2
  · rw [← A.ct, ← h1, List.length_map]
  · have e1 := td_wT (D := kept)
    have e2 : Tr.toD (pairT L M) = some (PsD ps) := by
      unfold pairT
      rw [h3]
      exact toD_ds
    show (match Tr.toD (AP.wT kept), (match Tr.toD (pairT L M), (some [] : Option (List PyData)) with
      | some d, some ds => some (d :: ds)
      | _, _ => none) with
      | some d, some ds => some (d :: ds)
      | _, _ => none).map PyData.tuple = _
    rw [e1, e2]
    rfl
theorem rows_S : ∀ {W : List AP.Sn}, rowsK (W.map AP.Sn.D) = some (W.map AP.Sn.sk)
  | [] => rfl
  | s :: W => by
    have ih := rows_S (W := W)
    show (match rowK s.D, rowsK (W.map AP.Sn.D) with
      | some k, some ks => some (k :: ks)
      | _, _ => none) = _
    rw [ih, show rowK s.D = some s.sk from key_D]
    rfl
theorem ne_nl {ds : List PyData} (h : ds = []) : neD (.list ds) (.list []) = some false := by
  subst h
  exact ne_nil (n := 1) (ds := []) (Sh.list fun _ h => nomatch h) (by decide)
theorem ne_same {n : Nat} {d : PyData} (h : Sh n d) (hn : n ≤ 60) : neD d d = some false := by
  show (if SeqAt.shaped d && SeqAt.shaped d then some (!PyData.eqv d d) else none) = _
  rw [h.ok (by omega), eqv_self (h.ok (by omega))]
  rfl
theorem r_ext {i : Nat} {g : M Rv} {ρ : Rho} {ts : List Tr} {ds : List PyData} (h : ρ[i]? = some (.own .free (.lst ts))) (hg : g ρ = some (.ok (.d (.list ds)) ρ)) (hs : small (ts.length + ds.length) = true) : sExt [] (pVar i) g ρ = some (.nx (ρ.set i (.own .free (.lst (ts ++ ds.map .dat))))) := by
  unfold sExt
  rw [sE_ok (p_own h)]
  show (if isLst (treeAt ρ (i, [])) then sE g (ext1 [] (i, [])) ρ else none) = _
  rw [t_own h]
  show sE g (ext1 [] (i, [])) ρ = _
  rw [sE_ok hg]
  unfold ext1
  rw [if_neg (by rw [m_own h]; simp), t_own h]
  show (if small (ts.length + ds.length) then some (Out.nx (VL.putAt ρ (i, []) (.lst (ts ++ ds.map .dat)))) else none) = _
  rw [if_pos hs, s_own h]
theorem lenSetB_run {f : M Rv} {r : Rv} {ρ ρ1 : Rho} {ds : List PyData} {ks : List (List L2.Key)} (h : f ρ = some (.ok r ρ1)) (hd : derS ρ1 r = some (.list ds)) (hk : rowsK ds = some ks) (nd : ks.Nodup) (few : ks.length < 300) : cLenSetB f ρ = some (.ok (.d (.int (ks.length : Nat))) ρ1) := by
  unfold cLenSetB bnd
  rw [h]
  show (match derS ρ1 r with
  | some (.list ds) => (match rowsK ds with
    | some ks => if ks.Nodup ∧ ks.length < 300 then some (Er.ok (Rv.d (.int (ks.length : Nat))) ρ1) else none
    | none => none)
  | _ => none) = _
  rw [hd]
  show (match rowsK ds with
    | some ks => if ks.Nodup ∧ ks.length < 300 then some (Er.ok (Rv.d (.int (ks.length : Nat))) ρ1) else none
    | none => none) = _
  rw [hk]
  show (if ks.Nodup ∧ ks.length < 300 then some (Er.ok (Rv.d (.int (ks.length : Nat))) ρ1) else none) = _
  rw [if_pos ⟨nd, few⟩]
theorem iOwn_run {i : Nat} {ρ : Rho} {m : Md} {ds : List PyData} (h : ρ[i]? = some (.own m (.lst (ds.map .dat)))) : iOwn i ρ = some (.ok ds ρ) := by
  unfold iOwn
  rw [h]
  show (match VL.flat (ds.map .dat) with
  | some ds => some (Er.ok ds ρ)
  | none => none) = _
  rw [flat_dat]
noncomputable abbrev uT (W : List AP.Sn) : Sl := .own .free (.lst ((W.map AP.Sn.D).map .dat))
noncomputable abbrev envA (L kept : List AP.Sn) (ps : List (AP.Sn × AP.Sn)) (v2 v5 v6 v7 v8 : Sl) : Rho := [.val (AP.lD L), .val (.tuple [AP.lD kept, PsD ps]), v2, .val (AP.lD kept), .val (PsD ps), v5, v6, v7, v8]
section
variable {L kept : List AP.Sn} {ps : List (AP.Sn × AP.Sn)}
theorem right_body {v7 v8 : Sl} (hL : ∀ s ∈ L, s ∈ allS) (R : Right L kept ps) {s : AP.Sn} (hs : s ∈ kept) : b__law_right_1 (envA L kept ps .no (.val s.D) .no v7 v8) = some (.nx (envA L kept ps .no (.val s.D) .no v7 v8)) := by
  have hk : ∀ x ∈ kept, x ∈ allS := fun x hx => hL x (R.sub x hx)
  obtain ⟨outs, e⟩ := e_law_likes (hk s hs)
  have tl : Tr.toD (.lst (((likes s).map AP.Sn.D).map .dat)) = some (AP.lD (likes s)) := toD_ds
  have io : itemsOf (AP.lD (likes s)) = some ((likes s).map AP.Sn.D) := rfl
  have it : iSeq (cFrz (nCall [5] 1 SM.F__law_likes (aCons (cVar 5) aNil))) (envA L kept ps .no (.val s.D) .no v7 v8) = some (.ok ((likes s).map AP.Sn.D) (envA L kept ps .no (.val s.D) .no v7 v8)) := by
    simp! only [setSl, List.replicate, pinS, Md.unb, VR.ap_fld1, VR.ap_pFld, VR.ap_pKey, VR.ap_keyT1, e, tl, io]
  have c := r_compT (D := AP.Sn.D) (ds := likes s) (v := 6) (s := .no) (tt := cCmp inD (cVar 6) (cVar 3)) (te := cVar 6) (fun o => decide (o ∈ kept)) AP.Sn.D it (by have := (likes_pos (s := s)).2; omega) rfl rfl (fun d hd => by
    exact r_cmp (r_var rfl) (r_var rfl) (in_D (likes_all (hk s hs) d hd) hk)) (fun _ _ _ => r_var rfl)
  have em : (likes s).filter (fun o => decide (o ∈ kept)) = [] := List.filter_eq_nil_iff.mpr fun o ho => by
    have : o ∉ kept := fun z => R.ind s hs o z ho
    simp [this]
  unfold b__law_right_1
  refine if_f (r_cmp c (r_frz (t := .lst []) (d := .list []) rfl rfl) (ne_nl ?_))
  rw [em]
  rfl
theorem pair_body {v5 : Sl} {dn : List (AP.Sn × AP.Sn)} (hdn : dn.length ≤ 1000) {p : AP.Sn × AP.Sn} (h1 : p.1 ∈ allS) (h2 : p.2 ∈ allS) (hp : p.2 ∈ likes p.1) :
    b__law_right_0 (envA L kept ps .no v5 .no (uT (used dn)) (.val (PD p))) = some (.nx (envA L kept ps .no v5 .no (uT (used (dn ++ [p]))) (.val (PD p)))) := by
  obtain ⟨outs, e⟩ := e_law_likes h1
  have tl : Tr.toD (.lst (((likes p.1).map AP.Sn.D).map .dat)) = some (AP.lD (likes p.1)) := toD_ds
  have n1 := notIn_D h2 (likes_all h1)
  rw [show (!decide (p.2 ∈ likes p.1)) = false by simp [hp]] at n1
  have x1 : subD (PD p) (.int 1) = some p.2.D := rfl
  have x0 : subD (PD p) (.int 0) = some p.1.D := rfl
  have lu := used_len (ps := dn)
  have c : (cOr (cNot (cTest (cIsi .tuple (cVar 8)))) (cOr (cCmp neD (cCall lenD (aCons (cVar 8) aNil)) (cD (.int 2))) (cCmp notInD (cBin subD (cVar 8) (cD (.int 1))) (cFrz (nCall [] 1 SM.F__law_likes (aCons (cBin subD (cVar 8) (cD (.int 0))) aNil)))))) (envA L kept ps .no v5 .no (uT (used dn)) (.val (PD p))) = some (.ok false (envA L kept ps .no v5 .no (uT (used dn)) (.val (PD p)))) := by
    refine r_orFF rfl (r_orFF rfl ?_)
    generalize hq : PD p = q at x0 x1 ⊢
    generalize uT (used dn) = u
    simp! only [setSl, List.replicate, pinS, Md.unb, VR.ap_fld1, VR.ap_pFld, VR.ap_pKey, VR.ap_keyT1, x0, x1, e, tl, n1]
  unfold b__law_right_0
  rw [seq_nx (if_f c)]
  have ex : sExt [] (pVar 7) (cCall listD (aCons (cVar 8) aNil)) (envA L kept ps .no v5 .no (uT (used dn)) (.val (PD p))) = some (.nx (envA L kept ps .no v5 .no (.own .free (.lst ((((used dn).map AP.Sn.D).map .dat) ++ [.dat p.1.D, .dat p.2.D]))) (.val (PD p)))) := by
    exact r_ext (i := 7) (ds := [p.1.D, p.2.D]) rfl (r_call1 (r_var rfl) rfl) (small_of (by rw [List.length_map, List.length_map, lu]; show 2 * dn.length + 2 ≤ _; omega))
  rw [ex]
  have eu : used (dn ++ [p]) = used dn ++ [p.1, p.2] := by unfold used; simp
  show some (Out.nx _) = some (Out.nx (envA L kept ps .no v5 .no (.own .free (.lst (((used (dn ++ [p])).map AP.Sn.D).map .dat))) (.val (PD p))))
  rw [eu, List.map_append, List.map_append]
  rfl
end
end K05

end

section
set_option Elab.async false
set_option linter.all false
set_option maxRecDepth 100000
set_option maxHeartbeats 2000000
namespace K05
open PySem PySem.Spec PyProof.Rows L2 VL SM SN SXA SP SH AP
section
variable {L kept : List AP.Sn} {ps : List (AP.Sn × AP.Sn)}
theorem pair_loop {v5 : Sl} (hL : ∀ s ∈ L, s ∈ allS) : ∀ (r dn : List (AP.Sn × AP.Sn)) (v8 : Sl), dn.length + r.length ≤ 900 → (∀ p ∈ r, p.1 ∈ allS ∧ p.2 ∈ allS ∧ p.2 ∈ likes p.1) → frB (some v8) = true →
    ∃ w8, frB (some w8) = true ∧ loopF (gN 8) b__law_right_0 (r.map PD) (envA L kept ps .no v5 .no (uT (used dn)) v8) = some (.nx (envA L kept ps .no v5 .no (uT (used (dn ++ r))) w8))
  | [], dn, v8, _, _, h8 => ⟨v8, h8, by rw [List.append_nil]; rfl⟩
  | p :: r, dn, v8, hl, hr, h8 => by
    rw [List.length_cons] at hl
    obtain ⟨h1, h2, h3⟩ := hr p List.mem_cons_self
    obtain ⟨w8, g8, ih⟩ := pair_loop (v5 := v5) hL r (dn ++ [p]) (.val (PD p)) (by rw [List.length_append, List.length_singleton]; omega) (fun q hq => hr q (List.mem_cons_of_mem _ hq)) rfl
    refine ⟨w8, g8, ?_⟩
    rw [List.append_assoc] at ih
    rw [List.map_cons, loop_cons (setSl_f h8) (pair_body (by omega) h1 h2 h3)]
    exact ih
theorem e_right (hL : ∀ s ∈ L, s ∈ allS) (ln : L.Nodup) (ll : L.length ≤ 200) (R : Right L kept ps) : ∃ outs, F__law_right [.val (AP.lD L), .val (.tuple [AP.lD kept, PsD ps])] = some (.ret (.dat (.bool true)), outs) := by
  have hk : ∀ x ∈ kept, x ∈ allS := fun x hx => hL x (R.sub x hx)
  have lps : ps.length ≤ 200 := by have := R.ct; omega
  have lk : kept.length ≤ 200 := by have := R.ct; omega
  have lu := used_len (ps := ps)
  have hu : ∀ x ∈ used ps, x ∈ allS := fun x hx => hL x (R.us x hx)
  have lu2 : (used ps).length ≤ 200 := Nat.le_trans (MT.nodup_len R.nd R.us) ll
  have hp : ∀ p ∈ ps, p.1 ∈ allS ∧ p.2 ∈ allS ∧ p.2 ∈ likes p.1 := fun p hp => ⟨hu _ (mem_used.mpr ⟨p, hp, .inl rfl⟩), hu _ (mem_used.mpr ⟨p, hp, .inr rfl⟩), R.lk p hp⟩
  have c0 : (cFrz (nComp (iSeq (cVar 1)) [2] (gN 2) tYesM (cIsi .list (cVar 2)))) [.val (AP.lD L), .val (.tuple [AP.lD kept, PsD ps]), .no, .no, .no, .no, .no, .no, .no] = some (.ok (.d (.list [.bool true, .bool true])) [.val (AP.lD L), .val (.tuple [AP.lD kept, PsD ps]), .no, .no, .no, .no, .no, .no, .no]) :=
    r_compD (D := fun d => d) (ds := [AP.lD kept, PsD ps]) (s := .no) (fun _ => .bool true) rfl (by simp) rfl rfl fun d hd => by
      simp only [List.mem_cons, List.not_mem_nil, or_false] at hd
      rcases hd with rfl | rfl <;> rfl
  have l2 : (cFrz (nLst (aCons (cD (.bool true)) (aCons (cD (.bool true)) aNil)))) [.val (AP.lD L), .val (.tuple [AP.lD kept, PsD ps]), .no, .no, .no, .no, .no, .no, .no] = some (.ok (.d (.list [.bool true, .bool true])) [.val (AP.lD L), .val (.tuple [AP.lD kept, PsD ps]), .no, .no, .no, .no, .no, .no, .no]) := rfl
  have i1 : (cNot (cTest (cIsi .tuple (cVar 1)))) [.val (AP.lD L), .val (.tuple [AP.lD kept, PsD ps]), .no, .no, .no, .no, .no, .no, .no] = some (.ok false [.val (AP.lD L), .val (.tuple [AP.lD kept, PsD ps]), .no, .no, .no, .no, .no, .no, .no]) := rfl
  have a0 : sIf (cOr (cNot (cTest (cIsi .tuple (cVar 1)))) (cCmp neD (cFrz (nComp (iSeq (cVar 1)) [2] (gN 2) tYesM (cIsi .list (cVar 2)))) (cFrz (nLst (aCons (cD (.bool true)) (aCons (cD (.bool true)) aNil)))))) (sRet (nDat (cD (.bool false)))) sNil [.val (AP.lD L), .val (.tuple [AP.lD kept, PsD ps]), .no, .no, .no, .no, .no, .no, .no] = some (.nx [.val (AP.lD L), .val (.tuple [AP.lD kept, PsD ps]), .no, .no, .no, .no, .no, .no, .no]) :=
    if_f (r_orFF i1 (r_cmp c0 l2 rfl))
  have a1 : sAsg (VL.gT 2 (gsC (gN 3) (gsC (gN 4) gsN))) (cVar 1) [.val (AP.lD L), .val (.tuple [AP.lD kept, PsD ps]), .no, .no, .no, .no, .no, .no, .no] = some (.nx (envA L kept ps .no .no .no .no .no)) := r_asg (r_var rfl) (r_gT2 rfl rfl)
  have c2 : cFrz (nComp (iSeq (cVar 0)) [5] (gN 5) (cCmp inD (cVar 5) (cVar 3)) (cVar 5)) (envA L kept ps .no .no .no .no .no) = some (.ok (.d (AP.lD kept)) (envA L kept ps .no .no .no .no .no)) := by
    have c := r_compT (D := AP.Sn.D) (ds := L) (v := 5) (s := .no) (ρ := envA L kept ps .no .no .no .no .no) (fi := iSeq (cVar 0)) (tt := cCmp inD (cVar 5) (cVar 3)) (te := cVar 5) (fun o => decide (o ∈ kept)) AP.Sn.D (r_seq rfl) (by omega) rfl rfl (fun d hd => r_cmp (r_var rfl) (r_var rfl) (in_D (hL d hd) hk)) (fun _ _ _ => r_var rfl)
    rw [R.fil] at c
    exact c
  have a2 : sIf (cCmp neD (cVar 3) (cFrz (nComp (iSeq (cVar 0)) [5] (gN 5) (cCmp inD (cVar 5) (cVar 3)) (cVar 5)))) (sRet (nDat (cD (.bool false)))) sNil (envA L kept ps .no .no .no .no .no) = some (.nx (envA L kept ps .no .no .no .no .no)) :=
    if_f (r_cmp (r_var rfl) c2 (ne_same (sh_lD hk) (by decide)))
  obtain ⟨ρ3, a3, v5, ⟨g5, u5⟩, rfl⟩ := r_for (D := AP.Sn.D) (fi := iSeq (cVar 3)) (g := gN 5) (b := b__law_right_1) (ds := kept) (ρ := envA L kept ps .no .no .no .no .no) (fun _ ρ => ∃ v5, (frB (some v5) = true ∧ unown v5 = true) ∧ ρ = envA L kept ps .no v5 .no .no .no) (r_seq rfl) ⟨.no, ⟨rfl, rfl⟩, rfl⟩ fun dn d ρ hd ⟨v5, ⟨g5, _⟩, e⟩ => by
    subst e
    exact ⟨_, _, setSl_f g5, right_body hL R hd, _, ⟨rfl, rfl⟩, rfl⟩
  have a4 : sSetN 7 (nLst aNil) (envA L kept ps .no v5 .no .no .no) = some (.nx (envA L kept ps .no v5 .no (uT (used [])) .no)) := rfl
  obtain ⟨w8, g8, lp⟩ := pair_loop (L := L) (kept := kept) (ps := ps) (v5 := v5) hL ps [] .no (by rw [List.length_nil]; omega) hp rfl
  have a5 : sFor (iSeq (cVar 4)) (gN 8) b__law_right_0 (envA L kept ps .no v5 .no (uT (used [])) .no) = some (.nx (envA L kept ps .no v5 .no (uT (used ps)) w8)) := for_ok (b := b__law_right_0) (r_seq rfl) lp
  obtain ⟨ow1, ow2, ow3⟩ := own_der (i := 7) (m := .free) (ds := (used ps).map AP.Sn.D) (ρ := envA L kept ps .no v5 .no (uT (used ps)) w8) rfl
  have s6 : cFrz (nComp (iOwn 7) [5] (gN 5) (cCmp notInD (cVar 5) (cVar 0)) (cVar 5)) (envA L kept ps .no v5 .no (uT (used ps)) w8) = some (.ok (.d (.list (((used ps).filter fun _ => false).map AP.Sn.D))) (envA L kept ps .no v5 .no (uT (used ps)) w8)) :=
    r_compT (D := AP.Sn.D) (s := v5) (fun _ => false) AP.Sn.D (iOwn_run rfl) (by omega) rfl u5 (fun x hx => by
      have n1 := notIn_D (hu x hx) hL
      rw [show (!decide (x ∈ L)) = false by simp [R.us x hx]] at n1
      exact r_cmp (r_var rfl) (r_var rfl) n1) (fun _ _ h => nomatch h)
  rw [show (used ps).filter (fun _ => false) = [] by simp] at s6
  have ndk : ((used ps).map AP.Sn.sk).Nodup := List.pairwise_map.mpr (R.nd.imp fun h e => h (sk_inj e))
  have l6 := lenSetB_run (f := cVar 7) ow1 ow2 rows_S ndk (by rw [List.length_map]; omega)
  have l7 : cCall lenD (aCons (cVar 7) aNil) (envA L kept ps .no v5 .no (uT (used ps)) w8) = some (.ok (.d (.int ((used ps).length : Nat))) (envA L kept ps .no v5 .no (uT (used ps)) w8)) := by
    have ld : lenD [.list ((used ps).map AP.Sn.D)] = some (.int ((used ps).length : Nat)) := ln_D
    generalize envA L kept ps .no v5 .no (uT (used ps)) w8 = ρ at ow1 ow2 ow3 ⊢
    generalize PyData.list ((used ps).map AP.Sn.D) = X at ow2 ow3 ld
    simp! only [setSl, List.replicate, pinS, Md.unb, VR.ap_fld1, VR.ap_pFld, VR.ap_pKey, VR.ap_keyT1, -VR.ap_cVar, ow1, ow2, ow3, ld]
  have lt0 : ltD (.int (((used ps).map AP.Sn.sk).length : Nat)) (.int ((used ps).length : Nat)) = some false := by
    rw [List.length_map]
    show some (decide _) = _
    simp
  have a6 : sIf (cOr (cCmp neD (cFrz (nComp (iOwn 7) [5] (gN 5) (cCmp notInD (cVar 5) (cVar 0)) (cVar 5))) (cFrz (nLst aNil))) (cCmp ltD (cLenSetB (cVar 7)) (cCall lenD (aCons (cVar 7) aNil)))) (sRet (nDat (cD (.bool false)))) sNil (envA L kept ps .no v5 .no (uT (used ps)) w8) = some (.nx (envA L kept ps .no v5 .no (uT (used ps)) w8)) :=
    if_f (r_orFF (r_cmp s6 (r_frz (f := nLst aNil) (t := .lst []) (d := .list []) rfl rfl) (ne_nl rfl)) (r_cmp l6 l7 lt0))
  have q : ((kept.length : Nat) : Int) = ((L.length : Nat) : Int) - ((ps.length : Nat) : Int) := by have := R.ct; omega
  have lp2 : lenD [PsD ps] = some (.int (ps.length : Nat)) := by
    show some (PyData.int ((ps.map PD).length : Nat)) = _
    rw [List.length_map]
  have c7 : cCmp eqD (cCall lenD (aCons (cVar 3) aNil)) (cBin subtD (cCall lenD (aCons (cVar 0) aNil)) (cCall lenD (aCons (cVar 4) aNil))) (envA L kept ps .no v5 .no (uT (used ps)) w8) = some (.ok true (envA L kept ps .no v5 .no (uT (used ps)) w8)) :=
    r_cmp (r_call1 (r_var rfl) ln_D) (r_bin (r_call1 (r_var rfl) ln_D) (r_call1 (r_var rfl) lp2) rfl) (by rw [q, VR.eqI]; simp)
  refine ⟨[.val (AP.lD L), .val (.tuple [AP.lD kept, PsD ps])], ?_⟩
  unfold F__law_right
  refine (run_rt (t := .dat (.bool true)) (ρ' := envA L kept ps .no v5 .no (uT (used ps)) w8) ?_).trans rfl
  unfold g__law_right
  show sSeq _ _ [.val (AP.lD L), .val (.tuple [AP.lD kept, PsD ps]), .no, .no, .no, .no, .no, .no, .no] = _
  rw [seq_nx a0, seq_nx a1, seq_nx a2, seq_nx a3, seq_nx a4, seq_nx a5, seq_nx a6]
  generalize cCmp eqD (cCall lenD (aCons (cVar 3) aNil)) (cBin subtD (cCall lenD (aCons (cVar 0) aNil)) (cCall lenD (aCons (cVar 4) aNil))) = f7 at c7 ⊢
  generalize envA L kept ps .no v5 .no (uT (used ps)) w8 = ρ at c7 ⊢
  simp! only [setSl, List.replicate, pinS, Md.unb, VR.ap_fld1, VR.ap_pFld, VR.ap_pKey, VR.ap_keyT1, c7]
end
end K05

end

section
set_option Elab.async false
set_option linter.all false
set_option maxRecDepth 100000
set_option maxHeartbeats 2000000
namespace K05
open PySem PySem.Spec PyProof.Rows L2 VL SM SN SXA SP SH AP
theorem sub_S {W : List AP.Sn} {v : Int} (h0 : 0 ≤ v) (h1 : v < W.length) : ∃ s ∈ W, subD (AP.lD W) (.int v) = some s.D := by
  obtain ⟨d, hd, e⟩ := sub_L (L := W.map AP.Sn.D) h0 (by simpa using h1)
  obtain ⟨s, hs, rfl⟩ := List.mem_map.mp hd
  exact ⟨s, hs, e⟩
theorem e_sgn {b : Bag} (hb : BgOk b) : ∃ s b', BgOk b' ∧ s ∈ allS ∧ fSign [.own .pin (bgT b)] = some (.ret (.dat s.D), [.own .pin (bgT b')]) := by
  obtain ⟨d, b', h1, h2, e⟩ := e_sg hb
  obtain ⟨s, hs, rfl⟩ := sn_of h2
  exact ⟨s, b', h1, hs, e⟩
noncomputable def addS (W : List AP.Sn) (s : AP.Sn) : List AP.Sn := if s ∈ W then W else W ++ [s]
noncomputable abbrev tr1 (W : List AP.Sn) : List (AP.Sn × PyData) := W.map fun x => (x, PyData.bool true)
theorem pt_W {W : List AP.Sn} {s : AP.Sn} : ptP (tr1 W) s (.bool true) = tr1 (addS W s) := by
  unfold ptP addS tr1
  have ha : ((W.map fun x => (x, PyData.bool true)).any fun p => decide (p.1 = s)) = decide (s ∈ W) := by
    rw [List.any_map, Bool.eq_iff_iff, List.any_eq_true, decide_eq_true_eq]
    constructor
    · rintro ⟨x, hx, e⟩
      have e : decide (x = s) = true := e
      rw [decide_eq_true_eq] at e
      exact e ▸ hx
    · exact fun h => ⟨s, h, by simp⟩
  rw [ha]
  by_cases h : s ∈ W
  · simp only [h, decide_true, if_true, List.map_map]
    refine List.map_congr_left fun x _ => ?_
    simp only [Function.comp]
    split <;> rfl
  · simp only [h, decide_false, Bool.false_eq_true, if_false, List.map_append]
    rfl
theorem addS_ok {W : List AP.Sn} {s : AP.Sn} (hs : s ∈ allS) (hW : ∀ s ∈ W, s ∈ allS) (wn : W.Nodup) : (∀ x ∈ addS W s, x ∈ allS) ∧ (addS W s).Nodup ∧ (addS W s).length ≤ W.length + 1 := by
  unfold addS
  by_cases h : s ∈ W
  · rw [if_pos h]
    exact ⟨hW, wn, Nat.le_succ _⟩
  · rw [if_neg h]
    refine ⟨fun y hy => ?_, MT.nodup_snoc wn h, by simp⟩
    rcases List.mem_append.mp hy with z | z
    · exact hW y z
    · rw [List.mem_singleton.mp z]; exact hs
noncomputable abbrev env8 (b : Bag) (n r : Int) (W : List AP.Sn) (l : AP.Sn) (v5 v6 v7 : Sl) : Rho := [.own .pin (bgT b), .val (.int n), .own .free (AP.dT (tr1 W)), .val (.int r), .val l.D, v5, v6, v7]
theorem some_body {b : Bag} {n r : Int} {W : List AP.Sn} {l : AP.Sn} {v5 v6 v7 : Sl} (hb : BgOk b) (hW : ∀ s ∈ W, s ∈ allS) (wn : W.Nodup) (w2 : W.length ≤ 1000) (hl : l ∈ allS) (h6 : frB (some v6) = true) (h7 : frB (some v7) = true) :
    ∃ b' s w6 w7, BgOk b' ∧ s ∈ allS ∧ frB (some w6) = true ∧ frB (some w7) = true ∧ b__law_some_0 (env8 b n r W l v5 v6 v7) = some (.nx (env8 b' n r (addS W s) s v5 w6 w7)) := by
  obtain ⟨u, b1, hb1, hu, f1⟩ := e_sgn hb
  have a1 : sSet 6 (cFrz (nCall [0] 1 fSign (aCons (cVar 0) aNil))) (env8 b n r W l v5 v6 v7) = some (.nx (env8 b1 n r W l v5 (.val u.D) v7)) := by
    unfold env8
    generalize AP.dT (tr1 W) = t
    simp! only [List.replicate, pinS, Md.unb, VR.ap_fld1, VR.ap_pFld, VR.ap_pKey, VR.ap_keyT1, cv_bg, f1, setSl_f, h6]
  have end' : ∀ {b' : Bag} {s : AP.Sn} {w7 : Sl}, sSeq (sDPut [] (cD (.bool true)) (pVar 2) (cVar 6)) (sSet 4 (cVar 6)) (env8 b' n r W l v5 (.val s.D) w7) = some (.nx (env8 b' n r (addS W s) s v5 (.val s.D) w7)) := fun {b' s w7} => by
    have e : sDPut [] (cD (.bool true)) (pVar 2) (cVar 6) (env8 b' n r W l v5 (.val s.D) w7) = some (.nx (env8 b' n r (addS W s) l v5 (.val s.D) w7)) :=
      dput_c (i := 2) rfl rfl rfl ((put_row (i := 2) (m := .free) (P := tr1 W) (o := s) rfl rfl (by rw [List.length_map]; omega)).trans (by rw [pt_W]; rfl))
    rw [seq_nx e]
    exact r_set (r_var rfl) rfl
  have mid : ∃ b' s w7, BgOk b' ∧ s ∈ allS ∧ frB (some w7) = true ∧ (sIf (cAnd (cCmp gtD (cVar 3) (cD (.int 0))) (cCmp gtD (cFrz (nCall [0] 2 fTake (aCons (cVar 0) (aCons (cD (.int 3)) aNil)))) (cD (.int 0)))) (sSeq (sSet 7 (cFrz (nCall [4] 1 SM.F__law_likes (aCons (cVar 4) aNil)))) (sSet 6 (cBin subD (cVar 7) (cFrz (nCall [0] 2 fTake (aCons (cVar 0) (aCons (cCall lenD (aCons (cVar 7) aNil)) aNil))))))) sNil) (env8 b1 n r W l v5 (.val u.D) v7) = some (.nx (env8 b' n r W l v5 (.val s.D) w7)) := by
    have c1 : cCmp gtD (cVar 3) (cD (.int 0)) (env8 b1 n r W l v5 (.val u.D) v7) = some (.ok (decide (r > 0)) (env8 b1 n r W l v5 (.val u.D) v7)) := r_cmp (r_var rfl) rfl rfl
    by_cases hr : r > 0
    · rw [decide_eq_true hr] at c1
      obtain ⟨i, b2, hb2, i0, i1, f2⟩ := e_tk hb1 (n := 3) (by decide) (by decide)
      have t2 : cFrz (nCall [0] 2 fTake (aCons (cVar 0) (aCons (cD (.int 3)) aNil))) (env8 b1 n r W l v5 (.val u.D) v7) = some (.ok (.d (.int i)) (env8 b2 n r W l v5 (.val u.D) v7)) := by
        unfold env8
        generalize AP.dT (tr1 W) = t
        simp! only [setSl, List.replicate, pinS, Md.unb, VR.ap_fld1, VR.ap_pFld, VR.ap_pKey, VR.ap_keyT1, cv_bg, f2]
      have c2 : cCmp gtD (cFrz (nCall [0] 2 fTake (aCons (cVar 0) (aCons (cD (.int 3)) aNil)))) (cD (.int 0)) (env8 b1 n r W l v5 (.val u.D) v7) = some (.ok (decide (i > 0)) (env8 b2 n r W l v5 (.val u.D) v7)) := r_cmp t2 rfl rfl
      by_cases hi : i > 0
      · rw [decide_eq_true hi] at c2
        obtain ⟨outs, el⟩ := e_law_likes hl
        obtain ⟨p1, p4⟩ := likes_pos (s := l)
        obtain ⟨j, b3, hb3, j0, j1, f3⟩ := e_tk hb2 (n := ((likes l).length : Nat)) (by omega) (by omega)
        obtain ⟨t, ht, et⟩ := sub_S (W := likes l) j0 j1
        have tl : Tr.toD (.lst (((likes l).map AP.Sn.D).map .dat)) = some (AP.lD (likes l)) := toD_ds
        have ll := ln_D (W := likes l)
        refine ⟨b3, t, .val (AP.lD (likes l)), hb3, likes_all hl t ht, rfl, ?_⟩
        rw [r_ifT (r_andT c1 c2)]
        have s1 : sSet 7 (cFrz (nCall [4] 1 SM.F__law_likes (aCons (cVar 4) aNil))) (env8 b2 n r W l v5 (.val u.D) v7) = some (.nx (env8 b2 n r W l v5 (.val u.D) (.val (AP.lD (likes l))))) := by
          unfold env8
          generalize AP.dT (tr1 W) = t
          simp! only [List.replicate, pinS, Md.unb, VR.ap_fld1, VR.ap_pFld, VR.ap_pKey, VR.ap_keyT1, el, tl, setSl_f, h7]
        have s2 : sSet 6 (cBin subD (cVar 7) (cFrz (nCall [0] 2 fTake (aCons (cVar 0) (aCons (cCall lenD (aCons (cVar 7) aNil)) aNil))))) (env8 b2 n r W l v5 (.val u.D) (.val (AP.lD (likes l)))) = some (.nx (env8 b3 n r W l v5 (.val t.D) (.val (AP.lD (likes l))))) := by
          unfold env8
          generalize AP.dT (tr1 W) = tt
          generalize AP.lD (likes l) = X at ll et
          simp! only [setSl, List.replicate, pinS, Md.unb, VR.ap_fld1, VR.ap_pFld, VR.ap_pKey, VR.ap_keyT1, cv_bg, ll, f3, et]
        rw [seq_nx s1]
        exact s2
      · rw [decide_eq_false hi] at c2
        exact ⟨b2, u, v7, hb2, hu, h7, by rw [r_ifF (r_andT c1 c2)]; rfl⟩
    · rw [decide_eq_false hr] at c1
      exact ⟨b1, u, v7, hb1, hu, h7, by rw [r_ifF (r_andF c1)]; rfl⟩
  obtain ⟨b', s, w7, hb', hs, g7, e⟩ := mid
  refine ⟨b', s, .val s.D, w7, hb', hs, rfl, g7, ?_⟩
  unfold b__law_some_0
  rw [seq_nx a1, seq_nx e]
  exact end'
theorem some_loop {n r : Int} : ∀ (m k : Nat) (b : Bag) (W : List AP.Sn) (l : AP.Sn) (v5 v6 v7 : Sl), BgOk b → (∀ s ∈ W, s ∈ allS) → W.Nodup → W.length + m ≤ 900 → l ∈ allS → frB (some v5) = true → frB (some v6) = true → frB (some v7) = true →
    ∃ b' W' ρ, BgOk b' ∧ (∀ s ∈ W', s ∈ allS) ∧ W'.Nodup ∧ W'.length ≤ W.length + m ∧ (∃ l v5 v6 v7, ρ = env8 b' n r W' l v5 v6 v7) ∧ loopF (gN 5) b__law_some_0 ((List.range' k m).map fun k => .int (0 + (k : Nat))) (env8 b n r W l v5 v6 v7) = some (.nx ρ)
  | 0, k, b, W, l, v5, v6, v7, hb, hW, wn, _, _, _, _, _ => ⟨b, W, _, hb, hW, wn, Nat.le_refl _, ⟨l, v5, v6, v7, rfl⟩, rfl⟩
  | m + 1, k, b, W, l, v5, v6, v7, hb, hW, wn, hl, hll, h5, h6, h7 => by
    obtain ⟨b1, s, w6, w7, hb1, hs, g6, g7, e⟩ := some_body (n := n) (r := r) (v5 := .val (.int (0 + (k : Nat)))) hb hW wn (by omega) hll h6 h7
    obtain ⟨q1, q2, q3⟩ := addS_ok hs hW wn
    obtain ⟨b', W', ρ, hb', hW', wn', l4, hρ, ih⟩ := some_loop m (k + 1) b1 (addS W s) s (.val (.int (0 + (k : Nat)))) w6 w7 hb1 q1 q2 (by omega) hs rfl g6 g7
    refine ⟨b', W', ρ, hb', hW', wn', by omega, hρ, ?_⟩
    rw [List.range'_succ, List.map_cons, loop_cons (setSl_f h5) e]
    exact ih
theorem pick3 {a b c i : Int} (h0 : 0 ≤ i) (h5 : i < 5) : ∃ v : Int, (cBin subD (cD (.list [.int a, .int b, .int c])) (cCall min2D (aCons (cD (.int 2)) (aCons (cBin fdivD (cD (.int i)) (cD (.int 2))) aNil)))) = (cBin subD (cD (.list [.int a, .int b, .int c])) (cCall min2D (aCons (cD (.int 2)) (aCons (cBin fdivD (cD (.int i)) (cD (.int 2))) aNil)))) ∧ (v = a ∨ v = b ∨ v = c) ∧ ∃ q m : PyData, fdivD (.int i) (.int 2) = some q ∧ min2D [.int 2, q] = some m ∧ subD (.list [.int a, .int b, .int c]) m = some (.int v) := by
  have : i = 0 ∨ i = 1 ∨ i = 2 ∨ i = 3 ∨ i = 4 := by omega
  rcases this with rfl | rfl | rfl | rfl | rfl
  · exact ⟨a, rfl, .inl rfl, _, _, rfl, rfl, rfl⟩
  · exact ⟨a, rfl, .inl rfl, _, _, rfl, rfl, rfl⟩
  · exact ⟨b, rfl, .inr (.inl rfl), _, _, rfl, rfl, rfl⟩
  · exact ⟨b, rfl, .inr (.inl rfl), _, _, rfl, rfl, rfl⟩
  · exact ⟨c, rfl, .inr (.inr rfl), _, _, rfl, rfl, rfl⟩
theorem e_some {b : Bag} (hb : BgOk b) : ∃ W b', BgOk b' ∧ (∀ s ∈ W, s ∈ allS) ∧ W.Nodup ∧ W.length ≤ 200 ∧ F__law_some [.own .pin (bgT b)] = some (.ret (AP.wT W), [.own .pin (bgT b')]) := by
  obtain ⟨x, b1, hb1, x0, x1, f1⟩ := e_tk hb (n := 8) (by decide) (by decide)
  obtain ⟨y, b2, hb2, y0, y1, f2⟩ := e_tk hb1 (n := 61) (by decide) (by decide)
  obtain ⟨z, b3, hb3, z0, z1, f3⟩ := e_tk hb2 (n := 201) (by decide) (by decide)
  obtain ⟨i, b4, hb4, i0, i1, f4⟩ := e_tk hb3 (n := 5) (by decide) (by decide)
  obtain ⟨v, _, hv, q, mm, g1, g2, g3⟩ := pick3 (a := x) (b := y) (c := z) i0 i1
  obtain ⟨m, rfl⟩ : ∃ m : Nat, v = (m : Int) := ⟨v.toNat, by omega⟩
  obtain ⟨r, b5, hb5, r0, r1, f5⟩ := e_tk hb4 (n := 3) (by decide) (by decide)
  obtain ⟨s, b6, hb6, hs, f6⟩ := e_sgn hb5
  obtain ⟨b', W, ρ, hb', hW, wn, l4, ⟨l, w5, w6, w7, rfl⟩, lp⟩ := some_loop (n := (m : Int)) (r := r) m 0 b6 [] s .no .no .no hb6 (fun _ h => nomatch h) List.nodup_nil (by rw [List.length_nil]; omega) hs rfl rfl rfl
  refine ⟨W, b', hb', hW, wn, by rw [List.length_nil] at l4; omega, ?_⟩
  have fl : cFrz (nLst (aCons (cFrz (nCall [0] 2 fTake (aCons (cVar 0) (aCons (cD (.int 8)) aNil)))) (aCons (cFrz (nCall [0] 2 fTake (aCons (cVar 0) (aCons (cD (.int 61)) aNil)))) (aCons (cFrz (nCall [0] 2 fTake (aCons (cVar 0) (aCons (cD (.int 201)) aNil)))) aNil)))) [.own .pin (bgT b), .no, .no, .no, .no, .no, .no, .no] = some (.ok (.d (.list [.int x, .int y, .int z])) [.own .pin (bgT b3), .no, .no, .no, .no, .no, .no, .no]) := by
    have t3 : Tr.toD (.lst [.dat (.int x), .dat (.int y), .dat (.int z)]) = some (.list [.int x, .int y, .int z]) := rfl
    simp! only [setSl, List.replicate, pinS, Md.unb, VR.ap_fld1, VR.ap_pFld, VR.ap_pKey, VR.ap_keyT1, cv_bg, f1, f2, f3, t3]
  have fm : cCall min2D (aCons (cD (.int 2)) (aCons (cBin fdivD (cFrz (nCall [0] 2 fTake (aCons (cVar 0) (aCons (cD (.int 5)) aNil)))) (cD (.int 2))) aNil)) [.own .pin (bgT b3), .no, .no, .no, .no, .no, .no, .no] = some (.ok (.d mm) [.own .pin (bgT b4), .no, .no, .no, .no, .no, .no, .no]) := by
    have t4 : cFrz (nCall [0] 2 fTake (aCons (cVar 0) (aCons (cD (.int 5)) aNil))) [.own .pin (bgT b3), .no, .no, .no, .no, .no, .no, .no] = some (.ok (.d (.int i)) [.own .pin (bgT b4), .no, .no, .no, .no, .no, .no, .no]) := by simp! only [setSl, List.replicate, pinS, Md.unb, VR.ap_fld1, VR.ap_pFld, VR.ap_pKey, VR.ap_keyT1, cv_bg, f4]
    have t5 := r_bin (g := fdivD) (r := q) t4 (show cD (.int 2) [.own .pin (bgT b4), .no, .no, .no, .no, .no, .no, .no] = some (.ok (.d (.int 2)) [.own .pin (bgT b4), .no, .no, .no, .no, .no, .no, .no]) from rfl) g1
    generalize cBin fdivD (cFrz (nCall [0] 2 fTake (aCons (cVar 0) (aCons (cD (.int 5)) aNil)))) (cD (.int 2)) = f at t5 ⊢
    simp! only [setSl, List.replicate, pinS, Md.unb, VR.ap_fld1, VR.ap_pFld, VR.ap_pKey, VR.ap_keyT1, t5, g2]
  have a1 : sSet 1 (cBin subD (cFrz (nLst (aCons (cFrz (nCall [0] 2 fTake (aCons (cVar 0) (aCons (cD (.int 8)) aNil)))) (aCons (cFrz (nCall [0] 2 fTake (aCons (cVar 0) (aCons (cD (.int 61)) aNil)))) (aCons (cFrz (nCall [0] 2 fTake (aCons (cVar 0) (aCons (cD (.int 201)) aNil)))) aNil))))) (cCall min2D (aCons (cD (.int 2)) (aCons (cBin fdivD (cFrz (nCall [0] 2 fTake (aCons (cVar 0) (aCons (cD (.int 5)) aNil)))) (cD (.int 2))) aNil)))) [.own .pin (bgT b), .no, .no, .no, .no, .no, .no, .no] = some (.nx [.own .pin (bgT b4), .val (.int (m : Nat)), .no, .no, .no, .no, .no, .no]) := r_set (r_bin fl fm g3) rfl
  have a2 : sSetN 2 (nNew (.dt [])) [.own .pin (bgT b4), .val (.int (m : Nat)), .no, .no, .no, .no, .no, .no] = some (.nx [.own .pin (bgT b4), .val (.int (m : Nat)), .own .free (AP.dT (tr1 [])), .no, .no, .no, .no, .no]) := rfl
  have a3 : sSet 3 (cFrz (nCall [0] 2 fTake (aCons (cVar 0) (aCons (cD (.int 3)) aNil)))) [.own .pin (bgT b4), .val (.int (m : Nat)), .own .free (AP.dT (tr1 [])), .no, .no, .no, .no, .no] = some (.nx [.own .pin (bgT b5), .val (.int (m : Nat)), .own .free (AP.dT (tr1 [])), .val (.int r), .no, .no, .no, .no]) := by
    generalize AP.dT (tr1 []) = t
    simp! only [setSl, List.replicate, pinS, Md.unb, VR.ap_fld1, VR.ap_pFld, VR.ap_pKey, VR.ap_keyT1, cv_bg, f5]
  have a4 : sSet 4 (cFrz (nCall [0] 1 fSign (aCons (cVar 0) aNil))) [.own .pin (bgT b5), .val (.int (m : Nat)), .own .free (AP.dT (tr1 [])), .val (.int r), .no, .no, .no, .no] = some (.nx (env8 b6 m r [] s .no .no .no)) := by
    unfold env8
    generalize AP.dT (tr1 []) = t
    simp! only [setSl, List.replicate, pinS, Md.unb, VR.ap_fld1, VR.ap_pFld, VR.ap_pKey, VR.ap_keyT1, cv_bg, f6]
  have a5 : sFor (iRange1 (aCons (cVar 1) aNil)) (gN 5) b__law_some_0 (env8 b6 m r [] s .no .no .no) = some (.nx (env8 b' m r W l w5 w6 w7)) := by
    rw [← List.range_eq_range'] at lp
    exact for_ok (b := b__law_some_0) (r_rng rfl (by omega)) lp
  have a6 : nKeysT (pVar 2) (env8 b' m r W l w5 w6 w7) = some (.ok (AP.wT W) (env8 b' m r W l w5 w6 w7)) := by
    unfold nKeysT
    rw [bnd_ok (p_own (m := .free) (t := AP.dT (tr1 W)) rfl), t_own (m := .free) (t := AP.dT (tr1 W)) rfl]
    show some (Er.ok (Tr.lst (((tr1 W).map fun p : AP.Sn × PyData => (p.1.sk, Tr.dat p.2)).map fun kv => .dat (keyTD kv.1))) _) = _
    unfold tr1 AP.wT
    simp only [List.map_map]
    rfl
  refine (run_rt (t := AP.wT W) (ρ' := env8 b' m r W l w5 w6 w7) ?_).trans rfl
  unfold g__law_some
  show sSeq _ _ [.own .pin (bgT b), .no, .no, .no, .no, .no, .no, .no] = _
  rw [seq_nx a1, seq_nx a2, seq_nx a3, seq_nx a4, seq_nx a5]
  generalize env8 b' m r W l w5 w6 w7 = ρ at a6 ⊢
  generalize nKeysT (pVar 2) = f at a6 ⊢
  simp! only [setSl, List.replicate, pinS, Md.unb, VR.ap_fld1, VR.ap_pFld, VR.ap_pKey, VR.ap_keyT1, a6]
end K05

end

section
set_option Elab.async false
set_option linter.all false
set_option maxRecDepth 100000
set_option maxHeartbeats 2000000
namespace K05
open PySem PySem.Spec PyProof.Rows L2 VL SM SN SXA SP SH AP
theorem odds180 : (allS.filter odd).length ≤ 180 ∧ (allS.filter fun s => !odd s).length ≤ 180 := by decide +kernel
theorem ods_le {L : List AP.Sn} (hL : ∀ s ∈ L, s ∈ allS) (ln : L.Nodup) : (ods L).length ≤ 189 ∧ (evs L).length ≤ 189 := by
  obtain ⟨a, b⟩ := odds180
  refine ⟨Nat.le_trans (MT.nodup_len (ln.filter _) fun x hx => ?_) (Nat.le_trans a (by decide)), Nat.le_trans (MT.nodup_len (ln.filter _) fun x hx => ?_) (Nat.le_trans b (by decide))⟩
  · have hx := List.mem_filter.mp hx
    exact List.mem_filter.mpr ⟨hL x hx.1, hx.2⟩
  · have hx := List.mem_filter.mp hx
    exact List.mem_filter.mpr ⟨hL x hx.1, hx.2⟩
theorem tl_dat : ∀ ds : List PyData, tlTs (ds.map .dat) = true
  | [] => rfl
  | d :: ds => by
    show (tlT (.dat d) && tlTs (ds.map .dat)) = true
    rw [tl_dat ds]
    rfl
theorem sh_found {L kept : List AP.Sn} {ps : List (AP.Sn × AP.Sn)} (hL : ∀ s ∈ L, s ∈ allS) (R : Right L kept ps) : Sh 4 (.tuple [AP.lD kept, PsD ps]) := by
  refine Sh.tuple fun d hd => ?_
  simp only [List.mem_cons, List.not_mem_nil, or_false] at hd
  rcases hd with rfl | rfl
  · exact (sh_lD (fun x hx => hL x (R.sub x hx))).mono (by decide)
  · refine Sh.list fun e he => ?_
    obtain ⟨p, hp, rfl⟩ := List.mem_map.mp he
    refine Sh.tuple fun d hd => ?_
    simp only [List.mem_cons, List.not_mem_nil, or_false] at hd
    rcases hd with rfl | rfl
    · exact sh_sn (hL _ (R.us _ (mem_used.mpr ⟨p, hp, .inl rfl⟩)))
    · exact sh_sn (hL _ (R.us _ (mem_used.mpr ⟨p, hp, .inr rfl⟩)))
theorem someF {b : Bag} : F__law_some [.own .free (bgT b)] = F__law_some [.own .pin (bgT b)] := Eq.trans (b := F__law_some [.own .pin (bgT b)]) rfl rfl
section
variable {S K v1 v2 v3 v4 v5 v6 : Sl} {X Y : PyData}
theorem lend_run {T : Tr} {outs : List Sl} (h1 : tlT T = true) (h2 : T.toD = some Y) (f : F__law_right [.val X, .val Y] = some (.ret (.dat (.bool true)), outs)) :
    cFrz (nLendT 2 F__law_right (lD (cVar 3) (lP (pVar 5) lNil))) [S, K, v2, .val X, v4, .own .free T, v6] = some (.ok (.d (.bool true)) [S, K, v2, .val X, v4, .own .free T, v6]) := by
  have e1 : lD (cVar 3) (lP (pVar 5) lNil) [S, K, v2, .val X, v4, .own .free T, v6] = some (.ok [.d X, .p (5, [])] [S, K, v2, .val X, v4, .own .free T, v6]) := rfl
  have e2 : lendT [S, K, v2, .val X, v4, .own .free T, v6] [.d X, .p (5, [])] = some [X, Y] := by
    show (match treeAt [S, K, v2, .val X, v4, .own .free T, v6] (5, []) with
      | some t => if tlT t then (match t.toD with
        | some d => ((some []).map (d :: ·) : Option (List PyData))
        | none => none) else none
      | _ => none).map (X :: ·) = _
    show (if tlT T then (match T.toD with
        | some d => ((some []).map (d :: ·) : Option (List PyData))
        | none => none) else none).map (X :: ·) = _
    rw [h1, h2]
    rfl
  refine r_frz (t := .dat (.bool true)) ?_ rfl
  unfold nLendT
  rw [bnd_ok e1]
  unfold callLT
  rw [e2]
  show (if 2 = 2 then (match F__law_right [.val X, .val Y] with
    | some (.ret t, _) => if plainT t then some (Er.ok t [S, K, v2, .val X, v4, .own .free T, v6]) else none
    | _ => none) else none) = _
  rw [f]
  rfl
theorem app0 {A B : List Tr} (h : small (A.length + 1) = true) : sApp [] (pIx [] (pVar 5) (cD (.int 0))) (nDat (cD .none)) [S, K, v2, v3, v4, .own .free (.tup [.lst A, .lst B]), v6] = some (.nx [S, K, v2, v3, v4, .own .free (.tup [.lst (A ++ [.dat .none]), .lst B]), v6]) := by
  have i0 : ixN 2 0 = some 0 := by decide
  simp! only [setSl, List.replicate, pinS, Md.unb, VR.ap_fld1, VR.ap_pFld, VR.ap_pKey, VR.ap_keyT1, h, i0]
  show (if small (A.length + 1) = true then some (Out.nx [S, K, v2, v3, v4, .own .free (.tup [.lst (A ++ [.dat .none]), .lst B]), v6]) else none) = _
  rw [if_pos h]
theorem app1 {A B : List Tr} (h : small (B.length + 1) = true) : sApp [] (pIx [] (pVar 5) (cD (.int 1))) (nDat (cD .none)) [S, K, v2, v3, v4, .own .free (.tup [.lst A, .lst B]), v6] = some (.nx [S, K, v2, v3, v4, .own .free (.tup [.lst A, .lst (B ++ [.dat .none])]), v6]) := by
  have i0 : ixN 2 1 = some 1 := by decide
  simp! only [setSl, List.replicate, pinS, Md.unb, VR.ap_fld1, VR.ap_pFld, VR.ap_pKey, VR.ap_keyT1, h, i0]
  show (if small (B.length + 1) = true then some (Out.nx [S, K, v2, v3, v4, .own .free (.tup [.lst A, .lst (B ++ [.dat .none])]), v6]) else none) = _
  rw [if_pos h]
end
theorem cell {ns : List Int} {k : Nat} {v2 v3 v4 v5 v6 : Sl} (hk : k ≤ 40) (h2 : frB (some v2) = true) (h3 : frB (some v3) = true) (h4 : frB (some v4) = true) (h5 : frB (some v5) = true) (h6 : frB (some v6) = true) :
    ∃ w2 w3 w4 w5 w6, (frB (some w2) = true ∧ frB (some w3) = true ∧ frB (some w4) = true ∧ frB (some w5) = true ∧ frB (some w6) = true) ∧ b_law_0 [.val (scrD ns), .val (.int (k : Nat)), v2, v3, v4, v5, v6] = some (.nx [.val (scrD ns), .val (.int (k : Nat)), w2, w3, w4, w5, w6]) := by
  obtain ⟨b, o0, hb, e0⟩ := e_bag (ns := ns) hk
  obtain ⟨L, b1, hb1, hL, ln, ll, f1⟩ := e_some hb
  rw [← someF] at f1
  obtain ⟨kept, M, outs, A, f2⟩ := e_most hL ln (by omega) (ods_le hL ln).1 (ods_le hL ln).2
  obtain ⟨ps, R, td⟩ := right_of A ln hL
  obtain ⟨outs3, f3⟩ := e_right hL ln ll R
  have tw := td_wT (D := L)
  have li : listD [AP.lD L] = some (AP.lD L) := rfl
  have n0 := ne_same (sh_lD hL) (by decide)
  have n1 := ne_same (sh_found hL R) (by decide)
  have tl : tlT (.tup [AP.wT kept, pairT L M]) = true := by
    show (tlTs ((kept.map AP.Sn.D).map .dat) && (tlTs (((MT.mtd (ods L) M).map (pairD M)).map .dat) && true)) = true
    rw [tl_dat, tl_dat]
    rfl
  have lk : small (((kept.map AP.Sn.D).map Tr.dat).length + 1) = true := small_of (by rw [List.length_map, List.length_map]; have := R.ct; omega)
  have lm : small ((((MT.mtd (ods L) M).map (pairD M)).map Tr.dat).length + 1) = true := small_of (by rw [List.length_map, List.length_map]; have := A.ct; omega)
  have a1 : sSetN 2 (nCall [0, 1] 2 fBag (aCons (cVar 0) (aCons (cVar 1) aNil))) [.val (scrD ns), .val (.int (k : Nat)), v2, v3, v4, v5, v6] = some (.nx [.val (scrD ns), .val (.int (k : Nat)), .own .free (bgT b), v3, v4, v5, v6]) := by simp! only [List.replicate, pinS, Md.unb, VR.ap_fld1, VR.ap_pFld, VR.ap_pKey, VR.ap_keyT1, e0, setSl_f, h2]
  have a2 : sSet 3 (cFrz (nCall [2] 1 F__law_some (aCons (cVar 2) aNil))) [.val (scrD ns), .val (.int (k : Nat)), .own .free (bgT b), v3, v4, v5, v6] = some (.nx [.val (scrD ns), .val (.int (k : Nat)), .own .free (bgT b1), .val (AP.lD L), v4, v5, v6]) := by simp! only [List.replicate, pinS, Md.unb, VR.ap_fld1, VR.ap_pFld, VR.ap_pKey, VR.ap_keyT1, cv_bg, f1, tw, setSl_f, h3]
  have a3 : sSet 4 (cCall listD (aCons (cVar 3) aNil)) [.val (scrD ns), .val (.int (k : Nat)), .own .free (bgT b1), .val (AP.lD L), v4, v5, v6] = some (.nx [.val (scrD ns), .val (.int (k : Nat)), .own .free (bgT b1), .val (AP.lD L), .val (AP.lD L), v5, v6]) := r_set (r_call1 (r_var rfl) li) h4
  have a4 : sSetN 5 (nCall [4] 1 SXA.F_most_apart (aCons (cVar 4) aNil)) [.val (scrD ns), .val (.int (k : Nat)), .own .free (bgT b1), .val (AP.lD L), .val (AP.lD L), v5, v6] = some (.nx [.val (scrD ns), .val (.int (k : Nat)), .own .free (bgT b1), .val (AP.lD L), .val (AP.lD L), .own .free (.tup [AP.wT kept, pairT L M]), v6]) := by
    generalize Tr.tup [AP.wT kept, pairT L M] = T at f2 ⊢
    generalize AP.lD L = X at f2 ⊢
    simp! only [List.replicate, pinS, Md.unb, VR.ap_fld1, VR.ap_pFld, VR.ap_pKey, VR.ap_keyT1, f2, setSl_f, h5]
  have c5 := lend_run (S := .val (scrD ns)) (K := .val (.int (k : Nat))) (v2 := .own .free (bgT b1)) (v4 := .val (AP.lD L)) (v6 := v6) tl td f3
  have a5 : sIf (cOr (cNot (cTest (cFrz (nLendT 2 F__law_right (lD (cVar 3) (lP (pVar 5) lNil)))))) (cCmp neD (cVar 4) (cVar 3))) (sRet (nDat (cD (.bool false)))) sNil [.val (scrD ns), .val (.int (k : Nat)), .own .free (bgT b1), .val (AP.lD L), .val (AP.lD L), .own .free (.tup [AP.wT kept, pairT L M]), v6] = some (.nx [.val (scrD ns), .val (.int (k : Nat)), .own .free (bgT b1), .val (AP.lD L), .val (AP.lD L), .own .free (.tup [AP.wT kept, pairT L M]), v6]) := by
    refine if_f (r_orFF ?_ (r_cmp (r_var rfl) (r_var rfl) n0))
    generalize cFrz (nLendT 2 F__law_right (lD (cVar 3) (lP (pVar 5) lNil))) = f at c5 ⊢
    generalize Tr.tup [AP.wT kept, pairT L M] = T at c5 ⊢
    simp! only [setSl, List.replicate, pinS, Md.unb, VR.ap_fld1, VR.ap_pFld, VR.ap_pKey, VR.ap_keyT1, c5]
  have a6 : sSet 6 (cFrz (nCall [4] 1 SXA.F_most_apart (aCons (cVar 4) aNil))) [.val (scrD ns), .val (.int (k : Nat)), .own .free (bgT b1), .val (AP.lD L), .val (AP.lD L), .own .free (.tup [AP.wT kept, pairT L M]), v6] = some (.nx [.val (scrD ns), .val (.int (k : Nat)), .own .free (bgT b1), .val (AP.lD L), .val (AP.lD L), .own .free (.tup [AP.wT kept, pairT L M]), .val (.tuple [AP.lD kept, PsD ps])]) := by
    generalize Tr.tup [AP.wT kept, pairT L M] = T at f2 td ⊢
    generalize PyData.tuple [AP.lD kept, PsD ps] = Y at td ⊢
    generalize AP.lD L = X at f2 ⊢
    simp! only [List.replicate, pinS, Md.unb, VR.ap_fld1, VR.ap_pFld, VR.ap_pKey, VR.ap_keyT1, f2, td, setSl_f, h6]
  have a7 : sApp [] (pIx [] (pVar 5) (cD (.int 0))) (nDat (cD .none)) [.val (scrD ns), .val (.int (k : Nat)), .own .free (bgT b1), .val (AP.lD L), .val (AP.lD L), .own .free (.tup [AP.wT kept, pairT L M]), .val (.tuple [AP.lD kept, PsD ps])] = some (.nx [.val (scrD ns), .val (.int (k : Nat)), .own .free (bgT b1), .val (AP.lD L), .val (AP.lD L), .own .free (.tup [.lst (((kept.map AP.Sn.D).map Tr.dat) ++ [.dat .none]), pairT L M]), .val (.tuple [AP.lD kept, PsD ps])]) := app0 lk
  have a8 : sApp [] (pIx [] (pVar 5) (cD (.int 1))) (nDat (cD .none)) [.val (scrD ns), .val (.int (k : Nat)), .own .free (bgT b1), .val (AP.lD L), .val (AP.lD L), .own .free (.tup [.lst (((kept.map AP.Sn.D).map Tr.dat) ++ [.dat .none]), pairT L M]), .val (.tuple [AP.lD kept, PsD ps])] = some (.nx [.val (scrD ns), .val (.int (k : Nat)), .own .free (bgT b1), .val (AP.lD L), .val (AP.lD L), .own .free (.tup [.lst (((kept.map AP.Sn.D).map Tr.dat) ++ [.dat .none]), .lst ((((MT.mtd (ods L) M).map (pairD M)).map Tr.dat) ++ [.dat .none])]), .val (.tuple [AP.lD kept, PsD ps])]) := app1 lm
  refine ⟨.own .free (bgT b1), .val (AP.lD L), .val (AP.lD L), .own .free (.tup [.lst (((kept.map AP.Sn.D).map Tr.dat) ++ [.dat .none]), .lst ((((MT.mtd (ods L) M).map (pairD M)).map Tr.dat) ++ [.dat .none])]), .val (.tuple [AP.lD kept, PsD ps]), ⟨rfl, rfl, rfl, rfl, rfl⟩, ?_⟩
  unfold b_law_0
  rw [seq_nx a1, seq_nx a2, seq_nx a3, seq_nx a4, seq_nx a5, seq_nx a6, seq_nx a7, seq_nx a8]
  generalize Tr.tup [.lst (((kept.map AP.Sn.D).map Tr.dat) ++ [.dat .none]), .lst ((((MT.mtd (ods L) M).map (pairD M)).map Tr.dat) ++ [.dat .none])] = T5
  have c9 : cNot (cTest (cFrz (nCall [3, 6] 2 F__law_right (aCons (cVar 3) (aCons (cVar 6) aNil))))) [.val (scrD ns), .val (.int (k : Nat)), .own .free (bgT b1), .val (AP.lD L), .val (AP.lD L), .own .free T5, .val (.tuple [AP.lD kept, PsD ps])] = some (.ok false [.val (scrD ns), .val (.int (k : Nat)), .own .free (bgT b1), .val (AP.lD L), .val (AP.lD L), .own .free T5, .val (.tuple [AP.lD kept, PsD ps])]) := by
    generalize PyData.tuple [AP.lD kept, PsD ps] = Y at f3 ⊢
    generalize AP.lD L = X at f3 ⊢
    simp! only [setSl, List.replicate, pinS, Md.unb, VR.ap_fld1, VR.ap_pFld, VR.ap_pKey, VR.ap_keyT1, f3]
  have d9 : cFrz (nCall [4] 1 SXA.F_most_apart (aCons (cVar 4) aNil)) [.val (scrD ns), .val (.int (k : Nat)), .own .free (bgT b1), .val (AP.lD L), .val (AP.lD L), .own .free T5, .val (.tuple [AP.lD kept, PsD ps])] = some (.ok (.d (.tuple [AP.lD kept, PsD ps])) [.val (scrD ns), .val (.int (k : Nat)), .own .free (bgT b1), .val (AP.lD L), .val (AP.lD L), .own .free T5, .val (.tuple [AP.lD kept, PsD ps])]) := by
    generalize Tr.tup [AP.wT kept, pairT L M] = T at f2 td ⊢
    generalize PyData.tuple [AP.lD kept, PsD ps] = Y at td ⊢
    generalize AP.lD L = X at f2 ⊢
    simp! only [setSl, List.replicate, pinS, Md.unb, VR.ap_fld1, VR.ap_pFld, VR.ap_pKey, VR.ap_keyT1, f2, td]
  exact if_f (r_orFF c9 (r_cmp d9 (r_var rfl) n1))
theorem outer {ns : List Int} : ∀ (m k : Nat) (v1 v2 v3 v4 v5 v6 : Sl), k + m ≤ 41 → frB (some v1) = true → frB (some v2) = true → frB (some v3) = true → frB (some v4) = true → frB (some v5) = true → frB (some v6) = true →
    ∃ ρ, loopF (gN 1) b_law_0 ((List.range' k m).map fun k => .int (0 + (k : Nat))) [.val (scrD ns), v1, v2, v3, v4, v5, v6] = some (.nx (.val (scrD ns) :: ρ))
  | 0, k, v1, v2, v3, v4, v5, v6, _, _, _, _, _, _, _ => ⟨_, rfl⟩
  | m + 1, k, v1, v2, v3, v4, v5, v6, hk, h1, h2, h3, h4, h5, h6 => by
    obtain ⟨w2, w3, w4, w5, w6, ⟨g2, g3, g4, g5, g6⟩, e1⟩ := cell (ns := ns) (k := k) (by omega) h2 h3 h4 h5 h6
    obtain ⟨ρ, ih⟩ := outer m (k + 1) (.val (.int (k : Nat))) w2 w3 w4 w5 w6 (by omega) rfl g2 g3 g4 g5 g6
    refine ⟨ρ, ?_⟩
    have g : gN 1 (.int (0 + (k : Nat))) [.val (scrD ns), v1, v2, v3, v4, v5, v6] = some [.val (scrD ns), .val (.int (k : Nat)), v2, v3, v4, v5, v6] := by
      rw [Int.zero_add]
      exact setSl_f h1
    rw [List.range'_succ, List.map_cons, loop_cons g e1]
    exact ih
theorem law_true : ∀ ns : List Int, ns.length ≤ 63 → ∃ outs, F_law [.val (scrD ns)] = some (.ret (.dat (.bool true)), outs) := by
  intro ns hns
  obtain ⟨m, em⟩ : ∃ m : Nat, (1 + (if (10 : Int) < ((ns.length : Nat) : Int) then (10 : Int) else ((ns.length : Nat) : Int)) : Int) = (m : Int) := ⟨(1 + (if (10 : Int) < ((ns.length : Nat) : Int) then (10 : Int) else ((ns.length : Nat) : Int)) : Int).toNat, by split <;> omega⟩
  have hm : m ≤ 41 := by split at em <;> omega
  obtain ⟨ρ, lp⟩ := outer (ns := ns) m 0 .no .no .no .no .no .no (by omega) rfl rfl rfl rfl rfl rfl
  have a2 := for_ok (b := b_law_0) (cell_range (vs := [.no, .no, .no, .no, .no, .no]) em (by omega)) lp
  refine ⟨[.val (scrD ns)], ?_⟩
  unfold F_law
  refine (run_rt (t := .dat (.bool true)) (ρ' := .val (scrD ns) :: ρ) ?_).trans rfl
  unfold g_law
  show sSeq _ _ [.val (scrD ns), .no, .no, .no, .no, .no, .no] = _
  rw [seq_nx a2]
  rfl
end K05

end

section
set_option Elab.async false
set_option linter.all false
set_option maxRecDepth 100000
set_option maxHeartbeats 0
namespace K05
open PySem PySem.Spec PyProof.Rows L2 VL SM SN
theorem all_mk {l : PySem.W.OpenLaw} {w : World} {K : PySem.W.Frag} {h : Heap} {mg : Str → Option Value} {fa : Addr} (X : K.In h) (G : h.Ns mainGlobals mg) (hfa : mg "law" = some (.ref fa))
    {od1 an1 : Option Addr} {sl1 : Array (Option Value)} {f1 : Addr} {oc1 kV1 dc1 pm1 cd1 ct1 : Value} {od2 an2 : Option Addr} {sl2 : Array (Option Value)} {f2 : Addr} {oc2 kV2 dc2 pm2 cd2 ct2 : Value} {od3 an3 : Option Addr} {sl3 : Array (Option Value)} {f3 : Addr} {oc3 kV3 dc3 pm3 cd3 ct3 : Value} {od4 an4 : Option Addr} {sl4 : Array (Option Value)} {f4 : Addr} {oc4 kV4 dc4 pm4 cd4 ct4 : Value} {od5 an5 : Option Addr} {sl5 : Array (Option Value)} {f5 : Addr} {oc5 kV5 dc5 pm5 cd5 ct5 : Value} {od6 an6 : Option Addr} {sl6 : Array (Option Value)} {f6 : Addr} {oc6 kV6 dc6 pm6 cd6 ct6 : Value} {od7 an7 : Option Addr} {sl7 : Array (Option Value)} {f7 : Addr} {oc7 kV7 dc7 pm7 cd7 ct7 : Value} {od8 an8 : Option Addr} {sl8 : Array (Option Value)} {f8 : Addr} {oc8 kV8 dc8 pm8 cd8 ct8 : Value} {od9 an9 : Option Addr} {sl9 : Array (Option Value)} {f9 : Addr} {oc9 kV9 dc9 pm9 cd9 ct9 : Value} {od10 an10 : Option Addr} {sl10 : Array (Option Value)} {f10 : Addr} {oc10 kV10 dc10 pm10 cd10 ct10 : Value} {od11 an11 : Option Addr} {sl11 : Array (Option Value)} {f11 : Addr} {oc11 kV11 dc11 pm11 cd11 ct11 : Value} {od12 an12 : Option Addr} {sl12 : Array (Option Value)} {f12 : Addr} {oc12 kV12 dc12 pm12 cd12 ct12 : Value} {od13 an13 : Option Addr} {sl13 : Array (Option Value)} {f13 : Addr} {oc13 kV13 dc13 pm13 cd13 ct13 : Value} {od14 an14 : Option Addr} {sl14 : Array (Option Value)} {f14 : Addr} {oc14 kV14 dc14 pm14 cd14 ct14 : Value} {od15 an15 : Option Addr} {sl15 : Array (Option Value)} {f15 : Addr} {oc15 kV15 dc15 pm15 cd15 ct15 : Value} {t1 : Addr} {es1 : Array DictEntry} {nt1 : Nat} {u1_1 : Value} {u1_2 : Value} {u1_3 : Value} {u1_4 : Value}
    (a1 : PySem.W.nsIn K mainGlobals "other_part" = some (some (.ref f1))) (l1 : K.lookup f1 = some ⟨oc1, od1, .func (PySem.W.fnOf "other_part" "other_part" (defArgs st_other_part) (defBody st_other_part) (defScope st_other_part) .none kV1 dc1 pm1 an1 cd1 ct1), sl1⟩) (c1 : PySem.W.codeIn K cd1 "other_part" = true) (k1 : PySem.W.keepIn K (.ref f1) = true)
    (a2 : PySem.W.nsIn K mainGlobals "is_odd" = some (some (.ref f2))) (l2 : K.lookup f2 = some ⟨oc2, od2, .func (PySem.W.fnOf "is_odd" "is_odd" (defArgs st_is_odd) (defBody st_is_odd) (defScope st_is_odd) .none kV2 dc2 pm2 an2 cd2 ct2), sl2⟩) (c2 : PySem.W.codeIn K cd2 "is_odd" = true) (k2 : PySem.W.keepIn K (.ref f2) = true)
    (a3 : PySem.W.nsIn K mainGlobals "reached_from" = some (some (.ref f3))) (l3 : K.lookup f3 = some ⟨oc3, od3, .func (PySem.W.fnOf "reached_from" "reached_from" (defArgs st_reached_from) (defBody st_reached_from) (defScope st_reached_from) .none kV3 dc3 pm3 an3 cd3 ct3), sl3⟩) (c3 : PySem.W.codeIn K cd3 "reached_from" = true) (k3 : PySem.W.keepIn K (.ref f3) = true)
    (a4 : PySem.W.nsIn K mainGlobals "_law_bag" = some (some (.ref f4))) (l4 : K.lookup f4 = some ⟨oc4, od4, .func (PySem.W.fnOf "_law_bag" "_law_bag" (defArgs st__law_bag) (defBody st__law_bag) (defScope st__law_bag) .none kV4 dc4 pm4 an4 cd4 ct4), sl4⟩) (c4 : PySem.W.codeIn K cd4 "_law_bag" = true) (k4 : PySem.W.keepIn K (.ref f4) = true)
    (a5 : PySem.W.nsIn K mainGlobals "_law_take" = some (some (.ref f5))) (l5 : K.lookup f5 = some ⟨oc5, od5, .func (PySem.W.fnOf "_law_take" "_law_take" (defArgs st__law_take) (defBody st__law_take) (defScope st__law_take) .none kV5 dc5 pm5 an5 cd5 ct5), sl5⟩) (c5 : PySem.W.codeIn K cd5 "_law_take" = true) (k5 : PySem.W.keepIn K (.ref f5) = true)
    (a6 : PySem.W.nsIn K mainGlobals "_law_likes" = some (some (.ref f6))) (l6 : K.lookup f6 = some ⟨oc6, od6, .func (PySem.W.fnOf "_law_likes" "_law_likes" (defArgs st__law_likes) (defBody st__law_likes) (defScope st__law_likes) .none kV6 dc6 pm6 an6 cd6 ct6), sl6⟩) (c6 : PySem.W.codeIn K cd6 "_law_likes" = true) (k6 : PySem.W.keepIn K (.ref f6) = true)
    (a7 : PySem.W.nsIn K mainGlobals "alikes" = some (some (.ref f7))) (l7 : K.lookup f7 = some ⟨oc7, od7, .func (PySem.W.fnOf "alikes" "alikes" (defArgs st_alikes) (defBody st_alikes) (defScope st_alikes) .none kV7 dc7 pm7 an7 cd7 ct7), sl7⟩) (c7 : PySem.W.codeIn K cd7 "alikes" = true) (k7 : PySem.W.keepIn K (.ref f7) = true)
    (a8 : PySem.W.nsIn K mainGlobals "_law_showing" = some (some (.ref f8))) (l8 : K.lookup f8 = some ⟨oc8, od8, .func (PySem.W.fnOf "_law_showing" "_law_showing" (defArgs st__law_showing) (defBody st__law_showing) (defScope st__law_showing) .none kV8 dc8 pm8 an8 cd8 ct8), sl8⟩) (c8 : PySem.W.codeIn K cd8 "_law_showing" = true) (k8 : PySem.W.keepIn K (.ref f8) = true)
    (a9 : PySem.W.nsIn K mainGlobals "_law_right" = some (some (.ref f9))) (l9 : K.lookup f9 = some ⟨oc9, od9, .func (PySem.W.fnOf "_law_right" "_law_right" (defArgs st__law_right) (defBody st__law_right) (defScope st__law_right) .none kV9 dc9 pm9 an9 cd9 ct9), sl9⟩) (c9 : PySem.W.codeIn K cd9 "_law_right" = true) (k9 : PySem.W.keepIn K (.ref f9) = true)
    (a10 : PySem.W.nsIn K mainGlobals "look_alike" = some (some (.ref f10))) (l10 : K.lookup f10 = some ⟨oc10, od10, .func (PySem.W.fnOf "look_alike" "look_alike" (defArgs st_look_alike) (defBody st_look_alike) (defScope st_look_alike) .none kV10 dc10 pm10 an10 cd10 ct10), sl10⟩) (c10 : PySem.W.codeIn K cd10 "look_alike" = true) (k10 : PySem.W.keepIn K (.ref f10) = true)
    (a11 : PySem.W.nsIn K mainGlobals "_law_sign" = some (some (.ref f11))) (l11 : K.lookup f11 = some ⟨oc11, od11, .func (PySem.W.fnOf "_law_sign" "_law_sign" (defArgs st__law_sign) (defBody st__law_sign) (defScope st__law_sign) .none kV11 dc11 pm11 an11 cd11 ct11), sl11⟩) (c11 : PySem.W.codeIn K cd11 "_law_sign" = true) (k11 : PySem.W.keepIn K (.ref f11) = true)
    (a12 : PySem.W.nsIn K mainGlobals "_law_some" = some (some (.ref f12))) (l12 : K.lookup f12 = some ⟨oc12, od12, .func (PySem.W.fnOf "_law_some" "_law_some" (defArgs st__law_some) (defBody st__law_some) (defScope st__law_some) .none kV12 dc12 pm12 an12 cd12 ct12), sl12⟩) (c12 : PySem.W.codeIn K cd12 "_law_some" = true) (k12 : PySem.W.keepIn K (.ref f12) = true)
    (a13 : PySem.W.nsIn K mainGlobals "find_mate" = some (some (.ref f13))) (l13 : K.lookup f13 = some ⟨oc13, od13, .func (PySem.W.fnOf "find_mate" "find_mate" (defArgs st_find_mate) (defBody st_find_mate) (defScope st_find_mate) .none kV13 dc13 pm13 an13 cd13 ct13), sl13⟩) (c13 : PySem.W.codeIn K cd13 "find_mate" = true) (k13 : PySem.W.keepIn K (.ref f13) = true)
    (a14 : PySem.W.nsIn K mainGlobals "most_apart" = some (some (.ref f14))) (l14 : K.lookup f14 = some ⟨oc14, od14, .func (PySem.W.fnOf "most_apart" "most_apart" (defArgs st_most_apart) (defBody st_most_apart) (defScope st_most_apart) .none kV14 dc14 pm14 an14 cd14 ct14), sl14⟩) (c14 : PySem.W.codeIn K cd14 "most_apart" = true) (k14 : PySem.W.keepIn K (.ref f14) = true)
    (a15 : PySem.W.nsIn K mainGlobals "law" = some (some (.ref f15))) (l15 : K.lookup f15 = some ⟨oc15, od15, .func (PySem.W.fnOf "law" "law" (defArgs st_law) (defBody st_law) (defScope st_law) .none kV15 dc15 pm15 an15 cd15 ct15), sl15⟩) (c15 : PySem.W.codeIn K cd15 "law" = true) (k15 : PySem.W.keepIn K (.ref f15) = true)
    (z1 : PySem.W.nsIn K mainGlobals "enumerate" = some none)
    (z2 : PySem.W.nsIn K mainGlobals "int" = some none)
    (z3 : PySem.W.nsIn K mainGlobals "isinstance" = some none)
    (z4 : PySem.W.nsIn K mainGlobals "len" = some none)
    (z5 : PySem.W.nsIn K mainGlobals "list" = some none)
    (z6 : PySem.W.nsIn K mainGlobals "min" = some none)
    (z7 : PySem.W.nsIn K mainGlobals "range" = some none)
    (z8 : PySem.W.nsIn K mainGlobals "set" = some none)
    (z9 : PySem.W.nsIn K mainGlobals "str" = some none)
    (z10 : PySem.W.nsIn K mainGlobals "tuple" = some none)
    (x1 : PySem.W.nsIn K mainGlobals "OTHERS" = some (some (.ref t1))) (y1 : K.lookup t1 = some ⟨.type "dict", none, .dict es1 nt1, #[]⟩) (v1 : PySem.W.KeysLit w.params es1.toList)
    (w1_1 : PySem.W.nsIn K t1 "in" = some (some u1_1)) (r1_1 : absV u1_1 = some (V.str "out"))
    (w1_2 : PySem.W.nsIn K t1 "out" = some (some u1_2)) (r1_2 : absV u1_2 = some (V.str "in"))
    (w1_3 : PySem.W.nsIn K t1 "chin" = some (some u1_3)) (r1_3 : absV u1_3 = some (V.str "brow"))
    (w1_4 : PySem.W.nsIn K t1 "brow" = some (some u1_4)) (r1_4 : absV u1_4 = some (V.str "chin"))
    : ∃ fd : FuncData, (∀ (s : Shared) (v : Value), BindsTo s fd ⟨[v], []⟩ [("script", v)]) ∧ ∀ base : Heap, K.In base → base.Ns mainGlobals mg → TbB K base mg → FnOk l.prog w K mg base CX0 193 fa fd ["script"] (spLaw K) := by
  have e := hfa.symm.trans (PySem.W.mg_of X G a15)
  cases e
  have F1 := fun_mk (st := st_other_part) l1 c1 k1
  have b1 := F1.binds (ps := ["part"]) fun _ _ _ _ _ _ us hl => match us, hl with | [_], _ => rfl
  have F2 := fun_mk (st := st_is_odd) l2 c2 k2
  have b2 := F2.binds (ps := ["sign"]) fun _ _ _ _ _ _ us hl => match us, hl with | [_], _ => rfl
  have F3 := fun_mk (st := st_reached_from) l3 c3 k3
  have b3 := F3.binds (ps := ["alone", "near", "mates"]) fun _ _ _ _ _ _ us hl => match us, hl with | [_, _, _], _ => rfl
  have F4 := fun_mk (st := st__law_bag) l4 c4 k4
  have b4 := F4.binds (ps := ["script", "k"]) fun _ _ _ _ _ _ us hl => match us, hl with | [_, _], _ => rfl
  have F5 := fun_mk (st := st__law_take) l5 c5 k5
  have b5 := F5.binds (ps := ["bag", "many"]) fun _ _ _ _ _ _ us hl => match us, hl with | [_, _], _ => rfl
  have F6 := fun_mk (st := st__law_likes) l6 c6 k6
  have b6 := F6.binds (ps := ["thing"]) fun _ _ _ _ _ _ us hl => match us, hl with | [_], _ => rfl
  have F7 := fun_mk (st := st_alikes) l7 c7 k7
  have b7 := F7.binds (ps := ["thing"]) fun _ _ _ _ _ _ us hl => match us, hl with | [_], _ => rfl
  have F8 := fun_mk (st := st__law_showing) l8 c8 k8
  have b8 := F8.binds (ps := ["bag"]) fun _ _ _ _ _ _ us hl => match us, hl with | [_], _ => rfl
  have F9 := fun_mk (st := st__law_right) l9 c9 k9
  have b9 := F9.binds (ps := ["signs", "found"]) fun _ _ _ _ _ _ us hl => match us, hl with | [_, _], _ => rfl
  have F10 := fun_mk (st := st_look_alike) l10 c10 k10
  have b10 := F10.binds (ps := ["one", "other"]) fun _ _ _ _ _ _ us hl => match us, hl with | [_, _], _ => rfl
  have F11 := fun_mk (st := st__law_sign) l11 c11 k11
  have b11 := F11.binds (ps := ["bag"]) fun _ _ _ _ _ _ us hl => match us, hl with | [_], _ => rfl
  have F12 := fun_mk (st := st__law_some) l12 c12 k12
  have b12 := F12.binds (ps := ["bag"]) fun _ _ _ _ _ _ us hl => match us, hl with | [_], _ => rfl
  have F13 := fun_mk (st := st_find_mate) l13 c13 k13
  have b13 := F13.binds (ps := ["sign", "near", "mates", "seen"]) fun _ _ _ _ _ _ us hl => match us, hl with | [_, _, _, _], _ => rfl
  have F14 := fun_mk (st := st_most_apart) l14 c14 k14
  have b14 := F14.binds (ps := ["signs"]) fun _ _ _ _ _ _ us hl => match us, hl with | [_], _ => rfl
  have F15 := fun_mk (st := st_law) l15 c15 k15
  have b15 := F15.binds (ps := ["script"]) fun _ _ _ _ _ _ us hl => match us, hl with | [_], _ => rfl
  have kd1 : ∀ z d, SM.tb_OTHERS.lookup z = some d → ∃ v, KDct K w t1 z v ∧ ∀ F, Dq K F v d := by
    intro z d hz
    refine tab_ok (tb := SM.tb_OTHERS) [(V.str sOut), (V.str sIn), (V.str sBrow), (V.str sChin)] ?_ z d hz
    exact (.cons ⟨⟨_, _, _, y1, v1, eIn ▸ w1_1, relV_abs (eOut ▸ r1_1)⟩, fun _ => .str _⟩ (.cons ⟨⟨_, _, _, y1, v1, eOut ▸ w1_2, relV_abs (eIn ▸ r1_2)⟩, fun _ => .str _⟩ (.cons ⟨⟨_, _, _, y1, v1, eChin ▸ w1_3, relV_abs (eBrow ▸ r1_3)⟩, fun _ => .str _⟩ (.cons ⟨⟨_, _, _, y1, v1, eBrow ▸ w1_4, relV_abs (eChin ▸ r1_4)⟩, fun _ => .str _⟩ .nil))))
  have A : All K w mg ⟨f1, PySem.W.fnOf "other_part" "other_part" (defArgs st_other_part) (defBody st_other_part) (defScope st_other_part) .none kV1 dc1 pm1 an1 cd1 ct1, f2, PySem.W.fnOf "is_odd" "is_odd" (defArgs st_is_odd) (defBody st_is_odd) (defScope st_is_odd) .none kV2 dc2 pm2 an2 cd2 ct2, f3, PySem.W.fnOf "reached_from" "reached_from" (defArgs st_reached_from) (defBody st_reached_from) (defScope st_reached_from) .none kV3 dc3 pm3 an3 cd3 ct3, f4, PySem.W.fnOf "_law_bag" "_law_bag" (defArgs st__law_bag) (defBody st__law_bag) (defScope st__law_bag) .none kV4 dc4 pm4 an4 cd4 ct4, f5, PySem.W.fnOf "_law_take" "_law_take" (defArgs st__law_take) (defBody st__law_take) (defScope st__law_take) .none kV5 dc5 pm5 an5 cd5 ct5, f6, PySem.W.fnOf "_law_likes" "_law_likes" (defArgs st__law_likes) (defBody st__law_likes) (defScope st__law_likes) .none kV6 dc6 pm6 an6 cd6 ct6, f7, PySem.W.fnOf "alikes" "alikes" (defArgs st_alikes) (defBody st_alikes) (defScope st_alikes) .none kV7 dc7 pm7 an7 cd7 ct7, f8, PySem.W.fnOf "_law_showing" "_law_showing" (defArgs st__law_showing) (defBody st__law_showing) (defScope st__law_showing) .none kV8 dc8 pm8 an8 cd8 ct8, f9, PySem.W.fnOf "_law_right" "_law_right" (defArgs st__law_right) (defBody st__law_right) (defScope st__law_right) .none kV9 dc9 pm9 an9 cd9 ct9, f10, PySem.W.fnOf "look_alike" "look_alike" (defArgs st_look_alike) (defBody st_look_alike) (defScope st_look_alike) .none kV10 dc10 pm10 an10 cd10 ct10, f11, PySem.W.fnOf "_law_sign" "_law_sign" (defArgs st__law_sign) (defBody st__law_sign) (defScope st__law_sign) .none kV11 dc11 pm11 an11 cd11 ct11, f12, PySem.W.fnOf "_law_some" "_law_some" (defArgs st__law_some) (defBody st__law_some) (defScope st__law_some) .none kV12 dc12 pm12 an12 cd12 ct12, f13, PySem.W.fnOf "find_mate" "find_mate" (defArgs st_find_mate) (defBody st_find_mate) (defScope st_find_mate) .none kV13 dc13 pm13 an13 cd13 ct13, f14, PySem.W.fnOf "most_apart" "most_apart" (defArgs st_most_apart) (defBody st_most_apart) (defScope st_most_apart) .none kV14 dc14 pm14 an14 cd14 ct14, fa, PySem.W.fnOf "law" "law" (defArgs st_law) (defBody st_law) (defScope st_law) .none kV15 dc15 pm15 an15 cd15 ct15, t1⟩ := ⟨F1, PySem.W.mg_of X G a1, b1, F2, PySem.W.mg_of X G a2, b2, F3, PySem.W.mg_of X G a3, b3, F4, PySem.W.mg_of X G a4, b4, F5, PySem.W.mg_of X G a5, b5, F6, PySem.W.mg_of X G a6, b6, F7, PySem.W.mg_of X G a7, b7, F8, PySem.W.mg_of X G a8, b8, F9, PySem.W.mg_of X G a9, b9, F10, PySem.W.mg_of X G a10, b10, F11, PySem.W.mg_of X G a11, b11, F12, PySem.W.mg_of X G a12, b12, F13, PySem.W.mg_of X G a13, b13, F14, PySem.W.mg_of X G a14, b14, F15, PySem.W.mg_of X G a15, b15, PySem.W.mg_none_of X G z1, PySem.W.mg_none_of X G z2, PySem.W.mg_none_of X G z3, PySem.W.mg_none_of X G z4, PySem.W.mg_none_of X G z5, PySem.W.mg_none_of X G z6, PySem.W.mg_none_of X G z7, PySem.W.mg_none_of X G z8, PySem.W.mg_none_of X G z9, PySem.W.mg_none_of X G z10, PySem.W.mg_of X G x1, kd1⟩
  exact ⟨_, fun s v => .of_eq rfl, fun base _ _ hB => (ok_law A).imp fun vs H Q E h => law_imp law_true h⟩
end K05
theorem PySem.W.Fast.te14705792047699406372 : True := trivial
open PySem PySem.W PyProof.Rows
set_option maxRecDepth 100000 in
set_option maxHeartbeats 0 in
theorem PySem.Challenge.cw_palmhall_k05_signs_apart_holds : PySem.Challenge.rw_palmhall_k05_signs_apart.Holds := by
  w_on; o_law; k_head; (case hw => w_witness2)
  k_fill
  refine VL.walk (l := PySem.Challenge.rw_palmhall_k05_signs_apart) (k := 193) rfl rfl ⟨rfl, by decide, by decide⟩ (fun w h Y => PySem.W.kIn_of Y) ?T ?F
  case T => intro w; kernel_rfl
  case F =>
    intro w mg fa h KX G hmg
    refine' K05.all_mk KX G hmg ?a1 ?l1 ?c1 ?k1 ?a2 ?l2 ?c2 ?k2 ?a3 ?l3 ?c3 ?k3 ?a4 ?l4 ?c4 ?k4 ?a5 ?l5 ?c5 ?k5 ?a6 ?l6 ?c6 ?k6 ?a7 ?l7 ?c7 ?k7 ?a8 ?l8 ?c8 ?k8 ?a9 ?l9 ?c9 ?k9 ?a10 ?l10 ?c10 ?k10 ?a11 ?l11 ?c11 ?k11 ?a12 ?l12 ?c12 ?k12 ?a13 ?l13 ?c13 ?k13 ?a14 ?l14 ?c14 ?k14 ?a15 ?l15 ?c15 ?k15 ?z1 ?z2 ?z3 ?z4 ?z5 ?z6 ?z7 ?z8 ?z9 ?z10 ?x1 ?y1 ?v1 ?w1_1 ?r1_1 ?w1_2 ?r1_2 ?w1_3 ?r1_3 ?w1_4 ?r1_4
    (case a1 => k_is)
    (case l1 => k_is)
    (case c1 => k_is)
    (case k1 => k_is)
    (case a2 => k_is)
    (case l2 => k_is)
    (case c2 => k_is)
    (case k2 => k_is)
    (case a3 => k_is)
    (case l3 => k_is)
    (case c3 => k_is)
    (case k3 => k_is)
    (case a4 => k_is)
    (case l4 => k_is)
    (case c4 => k_is)
    (case k4 => k_is)
    (case a5 => k_is)
    (case l5 => k_is)
    (case c5 => k_is)
    (case k5 => k_is)
    (case a6 => k_is)
    (case l6 => k_is)
    (case c6 => k_is)
    (case k6 => k_is)
    (case a7 => k_is)
    (case l7 => k_is)
    (case c7 => k_is)
    (case k7 => k_is)
    (case a8 => k_is)
    (case l8 => k_is)
    (case c8 => k_is)
    (case k8 => k_is)
    (case a9 => k_is)
    (case l9 => k_is)
    (case c9 => k_is)
    (case k9 => k_is)
    (case a10 => k_is)
    (case l10 => k_is)
    (case c10 => k_is)
    (case k10 => k_is)
    (case a11 => k_is)
    (case l11 => k_is)
    (case c11 => k_is)
    (case k11 => k_is)
    (case a12 => k_is)
    (case l12 => k_is)
    (case c12 => k_is)
    (case k12 => k_is)
    (case a13 => k_is)
    (case l13 => k_is)
    (case c13 => k_is)
    (case k13 => k_is)
    (case a14 => k_is)
    (case l14 => k_is)
    (case c14 => k_is)
    (case k14 => k_is)
    (case a15 => k_is)
    (case l15 => k_is)
    (case c15 => k_is)
    (case k15 => k_is)
    (case z1 => k_is)
    (case z2 => k_is)
    (case z3 => k_is)
    (case z4 => k_is)
    (case z5 => k_is)
    (case z6 => k_is)
    (case z7 => k_is)
    (case z8 => k_is)
    (case z9 => k_is)
    (case z10 => k_is)
    (case x1 => k_is)
    (case y1 => k_is)
    (case v1 => repeat' (first | exact trivial | exact ⟨_, _, rfl, rfl⟩ | constructor))
    (case w1_1 => k_is)
    (case r1_1 => rfl)
    (case w1_2 => k_is)
    (case r1_2 => rfl)
    (case w1_3 => k_is)
    (case r1_3 => rfl)
    (case w1_4 => k_is)
    (case r1_4 => rfl)

end
