import PyProof.Rows.All
import Wide.All
import OpenK.AllK
import Wide.FinOn
import HandS.ForMost
import HandS.ForExc
import HandS.Deep
import HandS.CallSlots
import HandS.Lambda
import KE.KNest
import HandS.TupAny
import HandS.Wide
import HandS.IsInst
import HandS.Walk
import HandS.Zip
import HandS.Text
import KE.GoesEnum
import HandS.More
import HandS.EndTab
import HandS.Style
import HandS.SetFor
import KE.SortData
import KE.KDictZip
import PyProof.ListNew
import KE.KDictDisplayH
import HandS.SortInts
import KE.DataMinMax
import HandS.Flow
import HandS.HotCalls
import HandS.ExcIs
import KE.DataFind
import KE.KDictLaws
import KE.SortKeyHeap
import HandS.SortKw
import HandS.WrittenGet
import PyProof.P3In
import HandS.RaiseMore
import HandS.Iter
import HandS.Strs
import HandS.TupSets
import PyProof.SumAny
import KE.KRevSl
import PyProof.Draws
import HandS.NoneIn
import KE.KUnpack
import HandS.Codes
import HandS.WideBits
import PySem.Challenge.RW_palmhall_k24_signs_and_cards_as_texts
section
set_option Elab.async false
set_option linter.all false
set_option maxRecDepth 100000
namespace VL
open PySem PySem.Spec PyProof.Rows L2

noncomputable abbrev Fg := PySem.W.Frag
noncomputable abbrev Sg := List (Option V)
noncomputable abbrev FP := Nat → List Addr
inductive Tr where
  | dat (d : PyData)
  | tup (ts : List Tr)
  | lst (ts : List Tr)
  | dk (kvs : List (Key × Tr))
  | dt (kvs : List (List Key × Tr))
  | ins (c : Str) (fs : List (Str × Tr))
  /-- dicts that are walked and no more written -/
  | fk (kvs : List (Key × PyData))
  | ft (kvs : List (List Key × PyData))
  /-- a value that is known, of no meaning; one that is not known -/
  | raw (v : V)
  /-- a dict of data that is frozen: it may stand in several trees -/
  | sd (kvs : List (Key × PyData))
  | hole
inductive Md where
  | free | pin | lock
  /-- a pinned tree of which a local names the part at p -/
  | bor (p : List Nat)
noncomputable def Md.pn : Md → Bool
  | .pin => true
  | .bor _ => true
  | _ => false
inductive Sl where
  | no
  | val (d : PyData)
  | own (m : Md) (t : Tr)
  /-- the part at p of slot i, while that is borrowed at p -/
  | al (i : Nat) (p : List Nat)
noncomputable abbrev Rho := List Sl

noncomputable def sg (σ : Sg) (i : Nat) : Option V := (σ[i]?).getD none
theorem sg_some {σ : Sg} {i : Nat} {v : V} : sg σ i = some v ↔ σ[i]? = some (some v) := by
  unfold sg
  cases h : σ[i]? with
  | none => simp
  | some x => simp

theorem rd_mono {H H' : Hp} {a : Addr} {u : HO} (e : Same H H') (h : Rd H a u) : Rd H' a u := by
  rcases h with h | ⟨o, h⟩
  · exact .inl (e _ _ h)
  · exact .inr ⟨o, e _ _ h⟩
noncomputable def isInt : PyData → Bool
  | .int _ => true
  | _ => false
noncomputable def kOk (ds : List PyData) : Bool := decide (ds.length ≤ 1) || ds.all isInt
noncomputable def TupA (K : Fg) (H : Hp) (a : Addr) (xs : List V) (ds : List PyData) : Prop :=
  H a = some (.tup xs) ∨ (kOk ds = true ∧ ∃ (o : Obj) (its : Array Value) (n : Nat), K.lookup a = some o ∧ o.cls = .type "tuple" ∧ o.data = .seq its n ∧ its.size ≤ sizeLine ∧ Vals xs its.toList)
theorem TupA.sq {K : Fg} {H : Hp} {a : Addr} {xs : List V} {ds : List PyData} (h : TupA K H a xs ds) : SqT K H a xs := by
  rcases h with h | ⟨_, h⟩
  · exact SqT.of h
  · exact .inr h
theorem TupA.mono {K : Fg} {H H' : Hp} {a : Addr} {xs : List V} {ds : List PyData} (h : TupA K H a xs ds) (s : Same H H') : TupA K H' a xs ds := by
  rcases h with h | h
  · exact .inl (s _ _ h)
  · exact .inr h
mutual
/-- data: as Dp of the layer, but that a list stands in H -/
inductive Dq (K : Fg) (H : Hp) : V → PyData → Prop
  | non : Dq K H .non .none
  | bl (b : Bool) : Dq K H (.bl b) (.bool b)
  | int (i : Int) : Dq K H (.int i) (.int i)
  | str (x : Str) : Dq K H (.str x) (.str x)
  | lst {a : Addr} {xs : List V} {ds : List PyData} : Rd H a (.lst xs) → DqAll K H xs ds → Dq K H (.ref a) (.list ds)
  | tups {a : Addr} {xs : List V} {ds : List PyData} : TupA K H a xs ds → DqAll K H xs ds → Dq K H (.ref a) (.tuple ds)
  /-- the script: a list of ints that may stand in the written part; told as a dict, so that nothing but its items and its length is asked -/
  | scr {a : Addr} {ns : List Int} : SqL K H a (ns.map V.int) → Dq K H (.ref a) (.dict (ns.map fun i => (.int i, .none)))
inductive DqAll (K : Fg) (H : Hp) : List V → List PyData → Prop
  | nil : DqAll K H [] []
  | cons {v : V} {vs : List V} {d : PyData} {ds : List PyData} : Dq K H v d → DqAll K H vs ds → DqAll K H (v :: vs) (d :: ds)
end
theorem Dq.tup {K : Fg} {H : Hp} {a : Addr} {xs : List V} {ds : List PyData} (h : H a = some (.tup xs)) (ha : DqAll K H xs ds) : Dq K H (.ref a) (.tuple ds) := .tups (.inl h) ha
mutual
theorem dq_dp {K : Fg} {F : Hp} : ∀ (d : PyData) (v : V), d.canLay0 = true → Dq K F v d → L2.Dp K F v d
  | .none, _, _, h => by cases h; exact .non
  | .bool b, _, _, h => by cases h; exact .bl b
  | .int i, _, _, h => by cases h; exact .int i
  | .str x, _, _, h => by cases h; exact .str x
  | .list ds, _, c, h => by
    cases h with
    | lst hs ha => exact .lst (.inl hs) (dqAll_dp ds _ (by simpa [PyData.canLay0] using c) ha)
  | .tuple ds, _, c, h => by
    cases h with
    | tups hs ha => exact .tup hs.sq (dqAll_dp ds _ (by simpa [PyData.canLay0] using c) ha)
  | .dict _, _, c, _ => by simp [PyData.canLay0] at c
theorem dqAll_dp {K : Fg} {F : Hp} : ∀ (ds : List PyData) (vs : List V), PyData.canLayAll0 ds = true → DqAll K F vs ds → L2.DpAll K F vs ds
  | [], _, _, h => by cases h; exact .nil
  | d :: ds, _, c, h => by
    have c' : d.canLay0 = true ∧ PyData.canLayAll0 ds = true := by simpa [PyData.canLayAll0] using c
    cases h with
    | cons h1 h2 => exact .cons (dq_dp d _ c'.1 h1) (dqAll_dp ds _ c'.2 h2)
end
mutual
theorem dq_mono {K : Fg} {F F' : Hp} (s : Same F F') : ∀ (d : PyData) (v : V), Dq K F v d → Dq K F' v d
  | .none, _, h => by cases h; exact .non
  | .bool b, _, h => by cases h; exact .bl b
  | .int i, _, h => by cases h; exact .int i
  | .str x, _, h => by cases h; exact .str x
  | .list ds, _, h => by
    cases h with
    | lst hs ha => exact .lst (rd_mono s hs) (dqAll_mono s ds _ ha)
  | .tuple ds, _, h => by
    cases h with
    | tups hs ha => exact .tups (hs.mono s) (dqAll_mono s ds _ ha)
  | .dict _, _, h => by
    cases h with
    | scr hs => exact .scr (s.seq hs)
theorem dqAll_mono {K : Fg} {F F' : Hp} (s : Same F F') : ∀ (ds : List PyData) (vs : List V), DqAll K F vs ds → DqAll K F' vs ds
  | [], _, h => by cases h; exact .nil
  | d :: ds, _, h => by
    cases h with
    | cons h1 h2 => exact .cons (dq_mono s d _ h1) (dqAll_mono s ds _ h2)
end
theorem dqAll_len {K : Fg} {F : Hp} : ∀ {vs : List V} {ds : List PyData}, DqAll K F vs ds → vs.length = ds.length
  | _, _, .nil => rfl
  | _, _, .cons _ t => by simp [dqAll_len t]
theorem dqAll_get {K : Fg} {F : Hp} : ∀ {vs : List V} {ds : List PyData} {i : Nat} {d : PyData}, DqAll K F vs ds → ds[i]? = some d → ∃ v, vs[i]? = some v ∧ Dq K F v d
  | _, _, _, _, .nil, e => by simp at e
  | _, _, 0, _, .cons r _, e => by simp at e; subst e; exact ⟨_, rfl, r⟩
  | _, _, i + 1, x, .cons _ t, e => by
    obtain ⟨u, h1, h2⟩ := dqAll_get (i := i) (d := x) t (by simpa using e)
    exact ⟨u, by simpa using h1, h2⟩
theorem dqAll_app {K : Fg} {F : Hp} : ∀ {vs ws : List V} {ds es : List PyData}, DqAll K F vs ds → DqAll K F ws es → DqAll K F (vs ++ ws) (ds ++ es)
  | _, _, _, _, .nil, s => s
  | _, _, _, _, .cons r t, s => .cons r (dqAll_app t s)
theorem dqAll_take {K : Fg} {F : Hp} : ∀ {vs : List V} {ds : List PyData} (n : Nat), DqAll K F vs ds → DqAll K F (vs.take n) (ds.take n)
  | _, _, 0, _ => .nil
  | _, _, _ + 1, .nil => .nil
  | _, _, n + 1, .cons r t => .cons r (dqAll_take n t)
theorem dqAll_drop {K : Fg} {F : Hp} : ∀ {vs : List V} {ds : List PyData} (n : Nat), DqAll K F vs ds → DqAll K F (vs.drop n) (ds.drop n)
  | _, _, 0, r => r
  | _, _, _ + 1, .nil => .nil
  | _, _, n + 1, .cons _ t => dqAll_drop n t

noncomputable def Prs {κ : Type} (K : Fg) (F : Hp) (vs : List (κ × V)) (ds : List (κ × PyData)) : Prop := vs.map (·.1) = ds.map (·.1) ∧ DqAll K F (vs.map (·.2)) (ds.map (·.2))
theorem Prs.mono {κ : Type} {K : Fg} {F F' : Hp} {vs : List (κ × V)} {ds : List (κ × PyData)} (s : Same F F') (h : Prs K F vs ds) : Prs K F' vs ds := ⟨h.1, dqAll_mono s _ _ h.2⟩
noncomputable def KT (H : Hp) (b : Addr) : Prop := (∃ ks : List Key, H b = some (.tup (ks.map kV))) ∨ ∃ ps, H b = some (.tbl ps)
mutual
inductive TrOk (K : Fg) (F H : Hp) : V → Tr → List Addr → Prop
  | dat {v : V} {d : PyData} : Dq K F v d → TrOk K F H v (.dat d) []
  | tup {a : Addr} {vs : List V} {ts : List Tr} {A : List Addr} : H a = some (.tup vs) → (F a = none ∧ ∀ ks : List Key, vs ≠ ks.map kV) → TrsOk K F H vs ts A → TrOk K F H (.ref a) (.tup ts) (a :: A)
  | lst {a : Addr} {vs : List V} {ts : List Tr} {A : List Addr} : H a = some (.lst vs) → F a = none → TrsOk K F H vs ts A → TrOk K F H (.ref a) (.lst ts) (a :: A)
  | dk {a : Addr} {vs : List (Key × V)} {ts : List (Key × Tr)} {A : List Addr} : H a = some (.dK vs) → F a = none → vs.map (·.1) = ts.map (·.1) → TrsOk K F H (vs.map (·.2)) (ts.map (·.2)) A → TrOk K F H (.ref a) (.dk ts) (a :: A)
  | dt {a : Addr} {vs : List (List Key × V)} {ts : List (List Key × Tr)} {A : List Addr} : H a = some (.dT vs) → F a = none → vs.map (·.1) = ts.map (·.1) → TrsOk K F H (vs.map (·.2)) (ts.map (·.2)) A → TrOk K F H (.ref a) (.dt ts) (a :: A)
  | ins {a C dx : Addr} {c : Str} {vs : List (Str × V)} {ts : List (Str × Tr)} {A : List Addr} : H a = some (.ins C dx vs) → F a = none → PySem.W.nsIn K mainGlobals c = some (some (.ref C)) → vs.map (·.1) = ts.map (·.1) → TrsOk K F H (vs.map (·.2)) (ts.map (·.2)) A → TrOk K F H (.ref a) (.ins c ts) (a :: A)
  | fk {a : Addr} {o : Obj} {vs : List (Key × V)} {ds : List (Key × PyData)} : H a = some (.frz o (.dK vs)) → F a = none → Prs K F vs ds → TrOk K F H (.ref a) (.fk ds) [a]
  | ft {a : Addr} {o : Obj} {vs : List (List Key × V)} {ds : List (List Key × PyData)} : H a = some (.frz o (.dT vs)) → F a = none → Prs K F vs ds → TrOk K F H (.ref a) (.ft ds) [a]
  | raw {v : V} : TrOk K F H v (.raw v) []
  | sd {a : Addr} {o : Obj} {vs : List (Key × V)} {ds : List (Key × PyData)} : F a = some (.frz o (.dK vs)) → Prs K F vs ds → TrOk K F H (.ref a) (.sd ds) []
  | hole {v : V} : TrOk K F H v .hole []
inductive TrsOk (K : Fg) (F H : Hp) : List V → List Tr → List Addr → Prop
  | nil : TrsOk K F H [] [] []
  | cons {v : V} {vs : List V} {t : Tr} {ts : List Tr} {A B : List Addr} : TrOk K F H v t A → TrsOk K F H vs ts B → TrsOk K F H (v :: vs) (t :: ts) (A ++ B)
end
section
variable {K : Fg} {F H F' H' : Hp}
mutual
theorem TrOk.mem : ∀ {v : V} {t : Tr} {A : List Addr}, TrOk K F H v t A → ∀ b ∈ A, H b ≠ none ∧ F b = none
  | _, _, _, .dat _, _, h => nomatch h
  | _, _, _, .tup e f r, b, h => by
    rcases List.mem_cons.mp h with rfl | h
    · exact ⟨(by rw [e]; exact fun z => nomatch z), f.1⟩
    · exact TrsOk.mem r b h
  | _, _, _, .lst e f r, b, h => by
    rcases List.mem_cons.mp h with rfl | h
    · exact ⟨(by rw [e]; exact fun z => nomatch z), f⟩
    · exact TrsOk.mem r b h
  | _, _, _, .dk e f _ r, b, h => by
    rcases List.mem_cons.mp h with rfl | h
    · exact ⟨(by rw [e]; exact fun z => nomatch z), f⟩
    · exact TrsOk.mem r b h
  | _, _, _, .dt e f _ r, b, h => by
    rcases List.mem_cons.mp h with rfl | h
    · exact ⟨(by rw [e]; exact fun z => nomatch z), f⟩
    · exact TrsOk.mem r b h
  | _, _, _, .ins e f _ _ r, b, h => by
    rcases List.mem_cons.mp h with rfl | h
    · exact ⟨(by rw [e]; exact fun z => nomatch z), f⟩
    · exact TrsOk.mem r b h
  | _, _, _, .fk e f _, b, h => by
    rw [List.mem_singleton.mp h]
    exact ⟨(by rw [e]; exact fun z => nomatch z), f⟩
  | _, _, _, .ft e f _, b, h => by
    rw [List.mem_singleton.mp h]
    exact ⟨(by rw [e]; exact fun z => nomatch z), f⟩
  | _, _, _, .raw, _, h => nomatch h
  | _, _, _, .sd _ _, _, h => nomatch h
  | _, _, _, .hole, _, h => nomatch h
theorem TrsOk.mem : ∀ {vs : List V} {ts : List Tr} {A : List Addr}, TrsOk K F H vs ts A → ∀ b ∈ A, H b ≠ none ∧ F b = none
  | _, _, _, .nil, _, h => nomatch h
  | _, _, _, .cons q r, b, h => by
    rcases List.mem_append.mp h with h | h
    · exact TrOk.mem q b h
    · exact TrsOk.mem r b h
end
mutual
theorem TrOk.ntb : ∀ {v : V} {t : Tr} {A : List Addr}, TrOk K F H v t A → ∀ b ∈ A, ∀ ps, H b ≠ some (.tbl ps)
  | _, _, _, .dat _, _, h => nomatch h
  | _, _, _, .tup e f r, b, h => by
    rcases List.mem_cons.mp h with rfl | h
    · intro ps z; rw [e] at z; cases z
    · exact TrsOk.ntb r b h
  | _, _, _, .lst e f r, b, h => by
    rcases List.mem_cons.mp h with rfl | h
    · intro ps z; rw [e] at z; cases z
    · exact TrsOk.ntb r b h
  | _, _, _, .dk e f _ r, b, h => by
    rcases List.mem_cons.mp h with rfl | h
    · intro ps z; rw [e] at z; cases z
    · exact TrsOk.ntb r b h
  | _, _, _, .dt e f _ r, b, h => by
    rcases List.mem_cons.mp h with rfl | h
    · intro ps z; rw [e] at z; cases z
    · exact TrsOk.ntb r b h
  | _, _, _, .ins e f _ _ r, b, h => by
    rcases List.mem_cons.mp h with rfl | h
    · intro ps z; rw [e] at z; cases z
    · exact TrsOk.ntb r b h
  | _, _, _, .fk e f _, b, h => by
    rw [List.mem_singleton.mp h]
    intro ps z; rw [e] at z; cases z
  | _, _, _, .ft e f _, b, h => by
    rw [List.mem_singleton.mp h]
    intro ps z; rw [e] at z; cases z
  | _, _, _, .raw, _, h => nomatch h
  | _, _, _, .sd _ _, _, h => nomatch h
  | _, _, _, .hole, _, h => nomatch h
theorem TrsOk.ntb : ∀ {vs : List V} {ts : List Tr} {A : List Addr}, TrsOk K F H vs ts A → ∀ b ∈ A, ∀ ps, H b ≠ some (.tbl ps)
  | _, _, _, .nil, _, h => nomatch h
  | _, _, _, .cons q r, b, h => by
    rcases List.mem_append.mp h with h | h
    · exact TrOk.ntb q b h
    · exact TrsOk.ntb r b h
end
mutual
theorem TrOk.nkt : ∀ {v : V} {t : Tr} {A : List Addr}, TrOk K F H v t A → ∀ b ∈ A, ¬ KT H b
  | _, _, _, .dat _, _, h => nomatch h
  | _, _, _, .tup e f r, b, h => by
    rcases List.mem_cons.mp h with rfl | h
    · rintro (⟨ks, z⟩ | ⟨ps, z⟩)
      · rw [e] at z; exact f.2 ks (by injection z with z; injection z)
      · rw [e] at z; cases z
    · exact TrsOk.nkt r b h
  | _, _, _, .lst e f r, b, h => by
    rcases List.mem_cons.mp h with rfl | h
    · rintro (⟨ks, z⟩ | ⟨ps, z⟩) <;> rw [e] at z <;> cases z
    · exact TrsOk.nkt r b h
  | _, _, _, .dk e f _ r, b, h => by
    rcases List.mem_cons.mp h with rfl | h
    · rintro (⟨ks, z⟩ | ⟨ps, z⟩) <;> rw [e] at z <;> cases z
    · exact TrsOk.nkt r b h
  | _, _, _, .dt e f _ r, b, h => by
    rcases List.mem_cons.mp h with rfl | h
    · rintro (⟨ks, z⟩ | ⟨ps, z⟩) <;> rw [e] at z <;> cases z
    · exact TrsOk.nkt r b h
  | _, _, _, .ins e f _ _ r, b, h => by
    rcases List.mem_cons.mp h with rfl | h
    · rintro (⟨ks, z⟩ | ⟨ps, z⟩) <;> rw [e] at z <;> cases z
    · exact TrsOk.nkt r b h
  | _, _, _, .fk e f _, b, h => by
    rw [List.mem_singleton.mp h]
    rintro (⟨ks, z⟩ | ⟨ps, z⟩) <;> rw [e] at z <;> cases z
  | _, _, _, .ft e f _, b, h => by
    rw [List.mem_singleton.mp h]
    rintro (⟨ks, z⟩ | ⟨ps, z⟩) <;> rw [e] at z <;> cases z
  | _, _, _, .raw, _, h => nomatch h
  | _, _, _, .sd _ _, _, h => nomatch h
  | _, _, _, .hole, _, h => nomatch h
theorem TrsOk.nkt : ∀ {vs : List V} {ts : List Tr} {A : List Addr}, TrsOk K F H vs ts A → ∀ b ∈ A, ¬ KT H b
  | _, _, _, .nil, _, h => nomatch h
  | _, _, _, .cons q r, b, h => by
    rcases List.mem_append.mp h with h | h
    · exact TrOk.nkt q b h
    · exact TrsOk.nkt r b h
end
mutual
theorem TrOk.move (s : Same F F') : ∀ {v : V} {t : Tr} {A : List Addr}, TrOk K F H v t A → (∀ b ∈ A, H' b = H b ∧ F' b = none) → TrOk K F' H' v t A
  | _, _, _, .dat d, _ => .dat (dq_mono s _ _ d)
  | _, _, _, .tup e f r, h => .tup ((h _ List.mem_cons_self).1.trans e) ⟨(h _ List.mem_cons_self).2, f.2⟩ (TrsOk.move s r fun b z => h b (List.mem_cons_of_mem _ z))
  | _, _, _, .lst e f r, h => .lst ((h _ List.mem_cons_self).1.trans e) (h _ List.mem_cons_self).2 (TrsOk.move s r fun b z => h b (List.mem_cons_of_mem _ z))
  | _, _, _, .dk e f k r, h => .dk ((h _ List.mem_cons_self).1.trans e) (h _ List.mem_cons_self).2 k (TrsOk.move s r fun b z => h b (List.mem_cons_of_mem _ z))
  | _, _, _, .dt e f k r, h => .dt ((h _ List.mem_cons_self).1.trans e) (h _ List.mem_cons_self).2 k (TrsOk.move s r fun b z => h b (List.mem_cons_of_mem _ z))
  | _, _, _, .ins e f kc k r, h => .ins ((h _ List.mem_cons_self).1.trans e) (h _ List.mem_cons_self).2 kc k (TrsOk.move s r fun b z => h b (List.mem_cons_of_mem _ z))
  | _, _, _, .fk e f r, h => .fk ((h _ List.mem_cons_self).1.trans e) (h _ List.mem_cons_self).2 (r.mono s)
  | _, _, _, .ft e f r, h => .ft ((h _ List.mem_cons_self).1.trans e) (h _ List.mem_cons_self).2 (r.mono s)
  | _, _, _, .raw, _ => .raw
  | _, _, _, .sd e r, _ => .sd (s _ _ e) (r.mono s)
  | _, _, _, .hole, _ => .hole
theorem TrsOk.move (s : Same F F') : ∀ {vs : List V} {ts : List Tr} {A : List Addr}, TrsOk K F H vs ts A → (∀ b ∈ A, H' b = H b ∧ F' b = none) → TrsOk K F' H' vs ts A
  | _, _, _, .nil, _ => .nil
  | _, _, _, .cons q r, h => .cons (TrOk.move s q fun b z => h b (List.mem_append_left _ z)) (TrsOk.move s r fun b z => h b (List.mem_append_right _ z))
end
mutual
/-- as data -/
noncomputable def Tr.toD : Tr → Option PyData
  | .dat d => some d
  | .tup ts => (Tr.toDs ts).map .tuple
  | .lst ts => (Tr.toDs ts).map .list
  | .dk _ => none
  | .dt _ => none
  | .ins _ _ => none
  | .fk _ => none
  | .ft _ => none
  | .raw _ => none
  | .sd _ => none
  | .hole => none
noncomputable def Tr.toDs : List Tr → Option (List PyData)
  | [] => some []
  | t :: ts => match Tr.toD t, Tr.toDs ts with
    | some d, some ds => some (d :: ds)
    | _, _ => none
end
noncomputable def frz (F H : Hp) (A : List Addr) : Hp := fun b => if b ∈ A then H b else F b
theorem frz_same {A : List Addr} (hA : ∀ b ∈ A, F b = none) : Same F (frz F H A) := fun b o e => by
  unfold frz
  rw [if_neg fun z => by rw [hA b z] at e; cases e]
  exact e
theorem frz_sub {A : List Addr} (s : Same F H) : Same (frz F H A) H := fun b o e => by
  unfold frz at e
  split at e
  · exact e
  · exact s b o e
mutual
/-- over G: what is frozen (of G, at least) reads as data -/
theorem TrOk.dp {G : Hp} (s : Same F G) : ∀ {v : V} {t : Tr} {A : List Addr} {d : PyData}, TrOk K F H v t A → (∀ b ∈ A, G b = H b) → t.toD = some d → Dq K G v d
  | _, _, _, _, .dat q, _, e => by
    simp only [Tr.toD] at e; cases e
    exact dq_mono s _ _ q
  | _, .tup ts, _, d, .tup q _ r, h, e => by
    simp only [Tr.toD] at e
    cases z : Tr.toDs ts with
    | none => rw [z] at e; cases e
    | some ds =>
      rw [z] at e; cases e
      exact .tup ((h _ List.mem_cons_self).trans q) (TrsOk.dp s r (fun b z => h b (List.mem_cons_of_mem _ z)) z)
  | _, .lst ts, _, d, .lst q _ r, h, e => by
    simp only [Tr.toD] at e
    cases z : Tr.toDs ts with
    | none => rw [z] at e; cases e
    | some ds =>
      rw [z] at e; cases e
      exact .lst (.inl ((h _ List.mem_cons_self).trans q)) (TrsOk.dp s r (fun b z => h b (List.mem_cons_of_mem _ z)) z)
  | _, _, _, _, .dk .., _, e => by simp [Tr.toD] at e
  | _, _, _, _, .dt .., _, e => by simp [Tr.toD] at e
  | _, _, _, _, .ins .., _, e => by simp [Tr.toD] at e
  | _, _, _, _, .fk .., _, e => by simp [Tr.toD] at e
  | _, _, _, _, .ft .., _, e => by simp [Tr.toD] at e
  | _, _, _, _, .raw, _, e => by simp [Tr.toD] at e
  | _, _, _, _, .sd _ _, _, e => by simp [Tr.toD] at e
  | _, _, _, _, .hole, _, e => by simp [Tr.toD] at e
theorem TrsOk.dp {G : Hp} (s : Same F G) : ∀ {vs : List V} {ts : List Tr} {A : List Addr} {ds : List PyData}, TrsOk K F H vs ts A → (∀ b ∈ A, G b = H b) → Tr.toDs ts = some ds → DqAll K G vs ds
  | _, _, _, _, .nil, _, e => by
    simp only [Tr.toDs] at e; cases e
    exact .nil
  | _, t :: ts, _, _, .cons q r, h, e => by
    simp only [Tr.toDs] at e
    cases z : t.toD with
    | none => rw [z] at e; cases e
    | some d =>
      cases y : Tr.toDs ts with
      | none => rw [z, y] at e; cases e
      | some ds' =>
        rw [z, y] at e; cases e
        exact .cons (TrOk.dp s q (fun b z => h b (List.mem_append_left _ z)) z) (TrsOk.dp s r (fun b z => h b (List.mem_append_right _ z)) y)
end
end
theorem TrsOk.len {K : Fg} {F H : Hp} : ∀ {vs : List V} {ts : List Tr} {A : List Addr}, TrsOk K F H vs ts A → vs.length = ts.length
  | _, _, _, .nil => rfl
  | _, _, _, .cons _ t => by simp [TrsOk.len t]
theorem trs_dat {K : Fg} {F H : Hp} : ∀ {vs : List V} {ds : List PyData}, DqAll K F vs ds → TrsOk K F H vs (ds.map .dat) []
  | _, _, .nil => .nil
  | _, _, .cons h t => by
    have := TrsOk.cons (TrOk.dat (H := H) h) (trs_dat (H := H) t)
    simpa using this
theorem trs_dat' {K : Fg} {F H : Hp} : ∀ {vs : List V} {ds : List PyData} {A : List Addr}, TrsOk K F H vs (ds.map .dat) A → A = [] ∧ DqAll K F vs ds
  | _, [], _, .nil => ⟨rfl, .nil⟩
  | _, d :: ds, _, .cons q r => by
    cases q with
    | dat q =>
      obtain ⟨e, z⟩ := trs_dat' (ds := ds) r
      subst e
      exact ⟨rfl, .cons q z⟩
theorem toDs_dat : ∀ ds : List PyData, Tr.toDs (ds.map .dat) = some ds
  | [] => by simp [Tr.toDs]
  | d :: ds => by simp [Tr.toDs, Tr.toD, toDs_dat ds]

noncomputable def kids : Tr → List Tr
  | .dat _ => []
  | .tup ts => ts
  | .lst ts => ts
  | .dk kvs => kvs.map (·.2)
  | .dt kvs => kvs.map (·.2)
  | .ins _ fs => fs.map (·.2)
  | .fk _ => []
  | .ft _ => []
  | .raw _ => []
  | .sd _ => []
  | .hole => []
noncomputable def setSnd {κ : Type} : List (κ × Tr) → Nat → Tr → List (κ × Tr)
  | [], _, _ => []
  | (k, _) :: r, 0, t => (k, t) :: r
  | p :: r, j + 1, t => p :: setSnd r j t
noncomputable def setKid : Tr → Nat → Tr → Tr
  | .dat d, _, _ => .dat d
  | .tup ts, j, t => .tup (ts.set j t)
  | .lst ts, j, t => .lst (ts.set j t)
  | .dk kvs, j, t => .dk (setSnd kvs j t)
  | .dt kvs, j, t => .dt (setSnd kvs j t)
  | .ins C fs, j, t => .ins C (setSnd fs j t)
  | .fk d, _, _ => .fk d
  | .ft d, _, _ => .ft d
  | .raw d, _, _ => .raw d
  | .sd d, _, _ => .sd d
  | .hole, _, _ => .hole
noncomputable def Tr.at : Tr → List Nat → Option Tr
  | t, [] => some t
  | t, j :: p => match (kids t)[j]? with
    | some k => k.at p
    | none => none
noncomputable def Tr.put : Tr → List Nat → Tr → Tr
  | _, [], t' => t'
  | t, j :: p, t' => match (kids t)[j]? with
    | some k => setKid t j (k.put p t')
    | none => t
noncomputable def kidsV (H : Hp) : V → List V
  | .ref a => match H a with
    | some (.tup vs) => vs
    | some (.lst vs) => vs
    | some (.dK kvs) => kvs.map (·.2)
    | some (.dT kvs) => kvs.map (·.2)
    | some (.ins _ _ fs) => fs.map (·.2)
    | _ => []
  | _ => []
noncomputable def pathV (H : Hp) : V → List Nat → Option V
  | v, [] => some v
  | v, j :: p => match (kidsV H v)[j]? with
    | some w => pathV H w p
    | none => none
theorem setSnd_fst {κ : Type} : ∀ (l : List (κ × Tr)) (j : Nat) (t : Tr), (setSnd l j t).map (·.1) = l.map (·.1)
  | [], _, _ => rfl
  | (k, _) :: r, 0, t => rfl
  | p :: r, j + 1, t => by simp [setSnd, setSnd_fst r j t]
theorem setSnd_snd {κ : Type} : ∀ (l : List (κ × Tr)) (j : Nat) (t : Tr), (setSnd l j t).map (·.2) = (l.map (·.2)).set j t
  | [], _, _ => rfl
  | (k, _) :: r, 0, t => rfl
  | p :: r, j + 1, t => by simp [setSnd, setSnd_snd r j t]
section
variable {K : Fg} {F H : Hp}
theorem trs_focus : ∀ {vs : List V} {ts : List Tr} {A : List Addr} {j : Nat} {t : Tr}, TrsOk K F H vs ts A → ts[j]? = some t →
    ∃ v pre B post, vs[j]? = some v ∧ A = pre ++ (B ++ post) ∧ TrOk K F H v t B ∧ ∀ F' H' t' B', Same F F' → (∀ b, b ∈ pre ∨ b ∈ post → H' b = H b ∧ F' b = none) → TrOk K F' H' v t' B' → TrsOk K F' H' vs (ts.set j t') (pre ++ (B' ++ post))
  | _, _, _, j, t, .nil, h => by simp at h
  | _, _, _, 0, t, @TrsOk.cons _ _ _ v vs t0 ts A B q r, h => by
    simp at h
    subst h
    exact ⟨v, [], A, B, rfl, rfl, q, fun F' H' t' B' s hb q' => by
      have z := TrsOk.cons q' (r.move s fun b z => hb b (.inr z))
      exact z⟩
  | _, _, _, j + 1, t, @TrsOk.cons _ _ _ v0 vs t0 ts A B q r, h => by
    obtain ⟨v, pre, B1, post, h1, h2, h3, h4⟩ := trs_focus (j := j) r (by simpa using h)
    refine ⟨v, A ++ pre, B1, post, by simpa using h1, by rw [h2]; simp, h3, fun F' H' t' B' s hb q' => ?_⟩
    have z := TrsOk.cons (q.move s fun b z => hb b (.inl (List.mem_append_left _ z))) (h4 F' H' t' B' s (fun b z => hb b (z.imp_left (List.mem_append_right _))) q')
    rw [List.append_assoc]
    exact z
theorem trs_repl : ∀ {vs : List V} {ts : List Tr} {A : List Addr} {j : Nat} {t : Tr}, TrsOk K F H vs ts A → ts[j]? = some t →
    ∃ v pre B post, vs[j]? = some v ∧ A = pre ++ (B ++ post) ∧ TrOk K F H v t B ∧ ∀ F' H' v' t' B', Same F F' → (∀ b, b ∈ pre ∨ b ∈ post → H' b = H b ∧ F' b = none) → TrOk K F' H' v' t' B' → TrsOk K F' H' (vs.set j v') (ts.set j t') (pre ++ (B' ++ post))
  | _, _, _, j, t, .nil, h => by simp at h
  | _, _, _, 0, t, @TrsOk.cons _ _ _ v vs t0 ts A B q r, h => by
    simp at h
    subst h
    exact ⟨v, [], A, B, rfl, rfl, q, fun F' H' v' t' B' s hb q' => by
      have z := TrsOk.cons q' (r.move s fun b z => hb b (.inr z))
      exact z⟩
  | _, _, _, j + 1, t, @TrsOk.cons _ _ _ v0 vs t0 ts A B q r, h => by
    obtain ⟨v, pre, B1, post, h1, h2, h3, h4⟩ := trs_repl (j := j) r (by simpa using h)
    refine ⟨v, A ++ pre, B1, post, by simpa using h1, by rw [h2]; simp, h3, fun F' H' v' t' B' s hb q' => ?_⟩
    have z := TrsOk.cons (q.move s fun b z => hb b (.inl (List.mem_append_left _ z))) (h4 F' H' v' t' B' s (fun b z => hb b (z.imp_left (List.mem_append_right _))) q')
    rw [List.append_assoc]
    exact z
theorem focus : ∀ {p : List Nat} {v : V} {t t' : Tr} {A : List Addr}, TrOk K F H v t A → t.at p = some t' →
    ∃ v' pre B post, pathV H v p = some v' ∧ A = pre ++ (B ++ post) ∧ TrOk K F H v' t' B ∧ ∀ F' H' t'' B', Same F F' → (∀ b, b ∈ pre ∨ b ∈ post → H' b = H b ∧ F' b = none) → TrOk K F' H' v' t'' B' → TrOk K F' H' v (t.put p t'') (pre ++ (B' ++ post)) ∧ pathV H' v p = some v'
  | [], v, t, t', A, q, h => by
    simp only [Tr.at] at h
    cases h
    exact ⟨v, [], A, [], rfl, by simp, q, fun F' H' t'' B' s hb q' => ⟨by simpa [Tr.put] using q', rfl⟩⟩
  | j :: p, v, t, t', A, q, h => by
    simp only [Tr.at] at h
    split at h
    · rename_i k hk
      cases q with
      | dat q => simp [kids] at hk
      | fk _ _ _ => simp [kids] at hk
      | ft _ _ _ => simp [kids] at hk
      | raw => simp [kids] at hk
      | sd _ _ => simp [kids] at hk
      | hole => simp [kids] at hk
      | @tup a vs ts A e f r =>
        obtain ⟨v1, pre, B, post, h1, h2, h3, h4⟩ := trs_focus r hk
        obtain ⟨v', pre', B', post', g1, g2, g3, g4⟩ := focus h3 h
        refine ⟨v', a :: (pre ++ pre'), B', post' ++ post, by simp [pathV, kidsV, e, h1, g1], by rw [h2, g2]; simp, g3, fun F' H' t'' B'' s hb q' => ?_⟩
        have ha := hb a (.inl List.mem_cons_self)
        obtain ⟨z, zp⟩ := g4 F' H' t'' B'' s (fun b z => hb b (z.imp (fun w => List.mem_cons_of_mem _ (List.mem_append_right _ w)) (List.mem_append_left _))) q'
        have y := h4 F' H' _ _ s (fun b z => hb b (z.imp (fun w => List.mem_cons_of_mem _ (List.mem_append_left _ w)) (List.mem_append_right _))) z
        refine ⟨?_, by simp [pathV, kidsV, ha.1, e, h1, zp]⟩
        simp only [Tr.put, hk, setKid]
        have x := TrOk.tup (ha.1.trans e) ⟨ha.2, f.2⟩ y
        simpa [List.append_assoc] using x
      | @lst a vs ts A e f r =>
        obtain ⟨v1, pre, B, post, h1, h2, h3, h4⟩ := trs_focus r hk
        obtain ⟨v', pre', B', post', g1, g2, g3, g4⟩ := focus h3 h
        refine ⟨v', a :: (pre ++ pre'), B', post' ++ post, by simp [pathV, kidsV, e, h1, g1], by rw [h2, g2]; simp, g3, fun F' H' t'' B'' s hb q' => ?_⟩
        have ha := hb a (.inl List.mem_cons_self)
        obtain ⟨z, zp⟩ := g4 F' H' t'' B'' s (fun b z => hb b (z.imp (fun w => List.mem_cons_of_mem _ (List.mem_append_right _ w)) (List.mem_append_left _))) q'
        have y := h4 F' H' _ _ s (fun b z => hb b (z.imp (fun w => List.mem_cons_of_mem _ (List.mem_append_left _ w)) (List.mem_append_right _))) z
        refine ⟨?_, by simp [pathV, kidsV, ha.1, e, h1, zp]⟩
        simp only [Tr.put, hk, setKid]
        have x := TrOk.lst (ha.1.trans e) ha.2 y
        simpa [List.append_assoc] using x
      | @dk a vs ts A e f kk r =>
        obtain ⟨v1, pre, B, post, h1, h2, h3, h4⟩ := trs_focus r hk
        obtain ⟨v', pre', B', post', g1, g2, g3, g4⟩ := focus h3 h
        refine ⟨v', a :: (pre ++ pre'), B', post' ++ post, by simp only [pathV, kidsV, e, h1]; exact g1, by rw [h2, g2]; simp, g3, fun F' H' t'' B'' s hb q' => ?_⟩
        have ha := hb a (.inl List.mem_cons_self)
        obtain ⟨z, zp⟩ := g4 F' H' t'' B'' s (fun b z => hb b (z.imp (fun w => List.mem_cons_of_mem _ (List.mem_append_right _ w)) (List.mem_append_left _))) q'
        have y := h4 F' H' _ _ s (fun b z => hb b (z.imp (fun w => List.mem_cons_of_mem _ (List.mem_append_left _ w)) (List.mem_append_right _))) z
        refine ⟨?_, by simp only [pathV, kidsV, ha.1, e, h1]; exact zp⟩
        simp only [Tr.put, hk, setKid]
        rw [← setSnd_snd] at y
        have x := TrOk.dk (ha.1.trans e) ha.2 (by rw [setSnd_fst]; exact kk) y
        simpa [List.append_assoc] using x
      | @dt a vs ts A e f kk r =>
        obtain ⟨v1, pre, B, post, h1, h2, h3, h4⟩ := trs_focus r hk
        obtain ⟨v', pre', B', post', g1, g2, g3, g4⟩ := focus h3 h
        refine ⟨v', a :: (pre ++ pre'), B', post' ++ post, by simp only [pathV, kidsV, e, h1]; exact g1, by rw [h2, g2]; simp, g3, fun F' H' t'' B'' s hb q' => ?_⟩
        have ha := hb a (.inl List.mem_cons_self)
        obtain ⟨z, zp⟩ := g4 F' H' t'' B'' s (fun b z => hb b (z.imp (fun w => List.mem_cons_of_mem _ (List.mem_append_right _ w)) (List.mem_append_left _))) q'
        have y := h4 F' H' _ _ s (fun b z => hb b (z.imp (fun w => List.mem_cons_of_mem _ (List.mem_append_left _ w)) (List.mem_append_right _))) z
        refine ⟨?_, by simp only [pathV, kidsV, ha.1, e, h1]; exact zp⟩
        simp only [Tr.put, hk, setKid]
        rw [← setSnd_snd] at y
        have x := TrOk.dt (ha.1.trans e) ha.2 (by rw [setSnd_fst]; exact kk) y
        simpa [List.append_assoc] using x
      | @ins a C dx c vs ts A e f kc kk r =>
        obtain ⟨v1, pre, B, post, h1, h2, h3, h4⟩ := trs_focus r hk
        obtain ⟨v', pre', B', post', g1, g2, g3, g4⟩ := focus h3 h
        refine ⟨v', a :: (pre ++ pre'), B', post' ++ post, by simp only [pathV, kidsV, e, h1]; exact g1, by rw [h2, g2]; simp, g3, fun F' H' t'' B'' s hb q' => ?_⟩
        have ha := hb a (.inl List.mem_cons_self)
        obtain ⟨z, zp⟩ := g4 F' H' t'' B'' s (fun b z => hb b (z.imp (fun w => List.mem_cons_of_mem _ (List.mem_append_right _ w)) (List.mem_append_left _))) q'
        have y := h4 F' H' _ _ s (fun b z => hb b (z.imp (fun w => List.mem_cons_of_mem _ (List.mem_append_left _ w)) (List.mem_append_right _))) z
        refine ⟨?_, by simp only [pathV, kidsV, ha.1, e, h1]; exact zp⟩
        simp only [Tr.put, hk, setKid]
        rw [← setSnd_snd] at y
        have x := TrOk.ins (ha.1.trans e) ha.2 kc (by rw [setSnd_fst]; exact kk) y
        simpa [List.append_assoc] using x
    · cases h
theorem path_stays {H' : Hp} {v : V} {t t' : Tr} {A : List Addr} {p : List Nat} {w : V} (q : TrOk K F H v t A) (h : t.at p = some t') (e : pathV H v p = some w) (hb : ∀ b ∈ A, H' b = H b) : pathV H' v p = some w := by
  obtain ⟨v', pre, B, post, g1, g2, g3, g4⟩ := focus q h
  rw [g1] at e; cases e
  have hF : ∀ b ∈ A, F b = none := fun b z => (q.mem b z).2
  refine (g4 F H' t' B (Same.refl _) (fun b z => ?_) (g3.move (Same.refl _) fun b z => ?_)).2
  · have : b ∈ A := by rw [g2]; rcases z with z | z; exact List.mem_append_left _ z; exact List.mem_append_right _ (List.mem_append_right _ z)
    exact ⟨hb b this, hF b this⟩
  · have : b ∈ A := by rw [g2]; exact List.mem_append_right _ (List.mem_append_left _ z)
    exact ⟨hb b this, hF b this⟩
end

noncomputable def SlOk (K : Fg) (F H : Hp) (v : Option V) (A : List Addr) : Sl → Prop
  | .no => True
  | .val d => ∃ u, v = some u ∧ Dq K F u d
  | .own _ t => ∃ u, v = some u ∧ TrOk K F H u t A
  | .al _ _ => True
noncomputable def AlOk (H : Hp) (σ : Sg) (ρ : Rho) : Prop := ∀ (j i : Nat) p t, ρ[j]? = some (.al i p) → ρ[i]? = some (.own (.bor p) t) → ∃ t' u v, t.at p = some t' ∧ sg σ i = some u ∧ sg σ j = some v ∧ pathV H u p = some v
noncomputable def TbOk (K : Fg) (F H : Hp) : Prop := ∀ c P, PySem.W.tabIn K "price_meant" = some (c, P) → F P = none ∧ ∃ ps : Array Value, H P = some (.tbl ps) ∧ TriplesOk ps.toList ∧ ∀ (pos : Pos) (cv : Value), codeAmong pos ps.toList = some cv → ∃ c', cv = .ref c' ∧ F c' = some (LamX.CodeO c' "price_meant.<locals>.<lambda>")
theorem TbOk.mono {K : Fg} {F H F' H' : Hp} (t : TbOk K F H) (s : Same F F') (h : ∀ P ps, H P = some (.tbl ps) → F P = none → F' P = none ∧ H' P = H P) : TbOk K F' H' := fun c P e => by
  obtain ⟨h1, ps, h2, h3, h4⟩ := t c P e
  obtain ⟨g1, g2⟩ := h P ps h2 h1
  refine ⟨g1, ps, g2.trans h2, h3, fun pos cv z => ?_⟩
  obtain ⟨c', e1, e2⟩ := h4 pos cv z
  exact ⟨c', e1, s _ _ e2⟩
theorem TbOk.same {K : Fg} {F H F' H' : Hp} (t : TbOk K F H) (s : Same F F') (hs : Same H H') (h : ∀ b, F b = none → F' b ≠ none → H b = none) : TbOk K F' H' := t.mono s fun P ps h1 h2 => by
  refine ⟨?_, (hs _ _ h1).trans h1.symm⟩
  cases q : F' P with
  | none => rfl
  | some o =>
    have z := h P h2 (by rw [q]; exact fun z => nomatch z)
    rw [h1] at z
    cases z
theorem TbOk.frz {K : Fg} {F H : Hp} {A : List Addr} (t : TbOk K F H) (hA : ∀ b ∈ A, F b = none) (hn : ∀ b ∈ A, ∀ ps, H b ≠ some (.tbl ps)) : TbOk K (VL.frz F H A) H := t.mono (frz_same hA) fun P ps h1 h2 => by
  refine ⟨?_, rfl⟩
  unfold VL.frz
  rw [if_neg fun z => hn P z ps h1]
  exact h2
theorem TbOk.upd {K : Fg} {F H : Hp} {a : Addr} {o : HO} (t : TbOk K F H) (hn : ∀ ps, H a ≠ some (.tbl ps)) : TbOk K F (L2.upd H a o) := t.mono (Same.refl _) fun P ps h1 h2 => ⟨h2, upd_ne fun z => hn ps (by rw [← z]; exact h1)⟩
structure EnvOk (K : Fg) (F H : Hp) (σ : Sg) (ρ : Rho) (fp : FP) : Prop where
  sub : Same F H
  len : σ.length = ρ.length
  sl : ∀ (i : Nat) s, ρ[i]? = some s → SlOk K F H (sg σ i) (fp i) s
  nil : ∀ (i : Nat), (∀ m t, ρ[i]? ≠ some (Sl.own m t)) → fp i = []
  nd : ∀ i, (fp i).Nodup
  ap : ∀ i j b, b ∈ fp i → b ∈ fp j → i = j
  tb : TbOk K F H
  al : AlOk H σ ρ
theorem EnvOk.al' {K : Fg} {F H H' : Hp} {σ σ' : Sg} {ρ ρ' : Rho} {fp : FP} (E : EnvOk K F H σ ρ fp) (hj : ∀ (j i : Nat) p, ρ'[j]? = some (.al i p) → ρ[j]? = some (.al i p) ∧ sg σ' j = sg σ j)
    (ho : ∀ (i : Nat) p t, ρ'[i]? = some (.own (.bor p) t) → ρ[i]? = some (.own (.bor p) t) ∧ sg σ' i = sg σ i ∧ ∀ b ∈ fp i, H' b = H b) : AlOk H' σ' ρ' := fun j i p t h1 h2 => by
  obtain ⟨a1, a2⟩ := hj j i p h1
  obtain ⟨b1, b2, b3⟩ := ho i p t h2
  obtain ⟨t', u, v, c1, c2, c3, c4⟩ := E.al j i p t a1 b1
  obtain ⟨u', e, q⟩ := E.sl i _ b1
  rw [c2] at e; cases e
  exact ⟨t', u, v, c1, b2.trans c2, a2.trans c3, path_stays q c1 c4 b3⟩
noncomputable def Owns (fp : FP) (b : Addr) : Prop := ∃ i, b ∈ fp i
theorem EnvOk.owned {K : Fg} {F H : Hp} {σ : Sg} {ρ : Rho} {fp : FP} (e : EnvOk K F H σ ρ fp) {i : Nat} {b : Addr} (h : b ∈ fp i) : ∃ m t u, ρ[i]? = some (Sl.own m t) ∧ sg σ i = some u ∧ TrOk K F H u t (fp i) := by
  cases q : ρ[i]? with
  | none => rw [e.nil i fun m t z => by rw [q] at z; cases z] at h; cases h
  | some s =>
    cases s with
    | no => rw [e.nil i fun m t z => by rw [q] at z; cases z] at h; cases h
    | val d => rw [e.nil i fun m t z => by rw [q] at z; cases z] at h; cases h
    | al k p => rw [e.nil i fun m t z => by rw [q] at z; cases z] at h; cases h
    | own m t =>
      obtain ⟨u, e1, e2⟩ := e.sl i _ q
      exact ⟨m, t, u, rfl, e1, e2⟩
theorem EnvOk.there {K : Fg} {F H : Hp} {σ : Sg} {ρ : Rho} {fp : FP} (e : EnvOk K F H σ ρ fp) {b : Addr} (h : Owns fp b) : H b ≠ none ∧ F b = none := by
  obtain ⟨i, h⟩ := h
  obtain ⟨m, t, u, _, _, z⟩ := e.owned h
  exact z.mem b h
theorem EnvOk.ntb {K : Fg} {F H : Hp} {σ : Sg} {ρ : Rho} {fp : FP} (e : EnvOk K F H σ ρ fp) {b : Addr} (h : Owns fp b) : ∀ ps, H b ≠ some (.tbl ps) := by
  obtain ⟨i, h⟩ := h
  obtain ⟨m, t, u, _, _, z⟩ := e.owned h
  exact z.ntb b h

theorem EnvOk.nkt {K : Fg} {F H : Hp} {σ : Sg} {ρ : Rho} {fp : FP} (e : EnvOk K F H σ ρ fp) {b : Addr} (h : Owns fp b) : ¬ KT H b := by
  obtain ⟨i, h⟩ := h
  obtain ⟨m, t, u, _, _, z⟩ := e.owned h
  exact z.nkt b h

structure Step (K : Fg) (F H : Hp) (σ : Sg) (ρ : Rho) (fp : FP) (F' H' : Hp) (σ' : Sg) (ρ' : Rho) (fp' : FP) : Prop where
  env : EnvOk K F' H' σ' ρ' fp'
  fr : Same F F'
  nf : ∀ b, F b = none → F' b ≠ none → H b = none ∨ (Owns fp b ∨ KT H b)
  dom : ∀ b, H' b = none → H b = none
  frame : ∀ b o, H b = some o → ¬ Owns fp b → (∀ ps, o ≠ .tbl ps) → H' b = some o
  own : ∀ b, Owns fp' b → Owns fp b ∨ H b = none
  pin : ∀ (i : Nat) m t, ρ[i]? = some (Sl.own m t) → m.pn = true → sg σ' i = sg σ i ∧ ∃ m' t', ρ'[i]? = some (Sl.own m' t') ∧ m'.pn = true
  lock : ∀ (i : Nat) t, ρ[i]? = some (Sl.own .lock t) → sg σ' i = sg σ i ∧ ρ'[i]? = some (Sl.own .lock t) ∧ fp' i = fp i ∧ ∀ b ∈ fp i, H' b = H b
theorem Step.refl {K : Fg} {F H : Hp} {σ : Sg} {ρ : Rho} {fp : FP} (e : EnvOk K F H σ ρ fp) : Step K F H σ ρ fp F H σ ρ fp :=
  ⟨e, Same.refl _, fun _ h h' => absurd h h', fun _ h => h, fun _ _ h _ _ => h, fun _ h => .inl h, fun _ m o h hm => ⟨rfl, m, o, h, hm⟩, fun _ _ h => ⟨rfl, h, rfl, fun _ _ => rfl⟩⟩
theorem Step.kt {K : Fg} {F H F1 H1 : Hp} {σ σ1 : Sg} {ρ ρ1 : Rho} {fp fp1 : FP} (a : Step K F H σ ρ fp F1 H1 σ1 ρ1 fp1) {c : Addr} (z : KT H1 c) : H c = none ∨ (Owns fp c ∨ KT H c) := by
  by_cases hn : H c = none
  · exact .inl hn
  · by_cases ho : Owns fp c
    · exact .inr (.inl ho)
    · obtain ⟨u, hu⟩ := Option.ne_none_iff_exists'.mp hn
      by_cases ht : ∃ ps, u = .tbl ps
      · obtain ⟨ps, rfl⟩ := ht
        exact .inr (.inr (.inr ⟨ps, hu⟩))
      · have := a.frame c u hu ho fun ps e => ht ⟨ps, e⟩
        unfold KT at z
        rw [this, ← hu] at z
        exact .inr (.inr z)
theorem Step.trans {K : Fg} {F H F1 H1 F2 H2 : Hp} {σ σ1 σ2 : Sg} {ρ ρ1 ρ2 : Rho} {fp fp1 fp2 : FP} (a : Step K F H σ ρ fp F1 H1 σ1 ρ1 fp1) (b : Step K F1 H1 σ1 ρ1 fp1 F2 H2 σ2 ρ2 fp2) : Step K F H σ ρ fp F2 H2 σ2 ρ2 fp2 where
  env := b.env
  fr := a.fr.trans b.fr
  nf := fun c h h' => by
    by_cases q : F1 c = none
    · rcases b.nf c q h' with z | z | z
      · exact .inl (a.dom c z)
      · exact (a.own c z).symm.imp_right .inl
      · exact a.kt z
    · exact a.nf c h q
  dom := fun c h => a.dom c (b.dom c h)
  frame := fun c o h n nt => b.frame c o (a.frame c o h n nt) (fun z => (a.own c z).elim n fun q => by rw [h] at q; cases q) nt
  own := fun c h => by
    rcases b.own c h with z | z
    · exact a.own c z
    · exact .inr (a.dom c z)
  pin := fun i m o h hm => by
    obtain ⟨e1, m1, o1, h1, k1⟩ := a.pin i m o h hm
    obtain ⟨e2, m2, o2, h2, k2⟩ := b.pin i m1 o1 h1 k1
    exact ⟨e2.trans e1, m2, o2, h2, k2⟩
  lock := fun i o h => by
    obtain ⟨e1, h1, f1, g1⟩ := a.lock i o h
    obtain ⟨e2, h2, f2, g2⟩ := b.lock i o h1
    exact ⟨e2.trans e1, h2, f2.trans f1, fun b hb => (g2 b (by rw [f1]; exact hb)).trans (g1 b hb)⟩

structure EStep (K : Fg) (T : List Nat) (F H : Hp) (σ : Sg) (ρ : Rho) (fp : FP) (F' H' : Hp) (ρ' : Rho) (fp' : FP) : Prop where
  st : Step K F H σ ρ fp F' H' σ ρ' fp'
  ko : ∀ (i : Nat) m t, ρ[i]? = some (Sl.own m t) → ∃ t', ρ'[i]? = some (Sl.own m t')
  un : ∀ (i : Nat), i ∉ T → ρ'[i]? = ρ[i]? ∧ fp' i = fp i ∧ ∀ b ∈ fp i, H' b = H b
theorem EStep.refl {K : Fg} {T : List Nat} {F H : Hp} {σ : Sg} {ρ : Rho} {fp : FP} (e : EnvOk K F H σ ρ fp) : EStep K T F H σ ρ fp F H ρ fp := ⟨.refl e, fun _ _ o h => ⟨o, h⟩, fun _ _ => ⟨rfl, rfl, fun _ _ => rfl⟩⟩
theorem EStep.trans {K : Fg} {T : List Nat} {F H F1 H1 F2 H2 : Hp} {σ : Sg} {ρ ρ1 ρ2 : Rho} {fp fp1 fp2 : FP} (a : EStep K T F H σ ρ fp F1 H1 ρ1 fp1) (b : EStep K T F1 H1 σ ρ1 fp1 F2 H2 ρ2 fp2) : EStep K T F H σ ρ fp F2 H2 ρ2 fp2 :=
  ⟨a.st.trans b.st, fun i m o h => let ⟨o1, h1⟩ := a.ko i m o h; b.ko i m o1 h1, fun i hi => by
    obtain ⟨a1, a2, a3⟩ := a.un i hi
    obtain ⟨b1, b2, b3⟩ := b.un i hi
    exact ⟨b1.trans a1, b2.trans a2, fun c hc => (b3 c (by rw [a2]; exact hc)).trans (a3 c hc)⟩⟩
theorem EStep.env {K : Fg} {T : List Nat} {F H F1 H1 : Hp} {σ : Sg} {ρ ρ1 : Rho} {fp fp1 : FP} (a : EStep K T F H σ ρ fp F1 H1 ρ1 fp1) : EnvOk K F1 H1 σ ρ1 fp1 := a.st.env
theorem EStep.sub {K : Fg} {T T' : List Nat} {F H F1 H1 : Hp} {σ : Sg} {ρ ρ1 : Rho} {fp fp1 : FP} (a : EStep K T F H σ ρ fp F1 H1 ρ1 fp1) (h : ∀ i ∈ T, i ∈ T') : EStep K T' F H σ ρ fp F1 H1 ρ1 fp1 :=
  ⟨a.st, a.ko, fun i hi => a.un i fun z => hi (h i z)⟩

structure Grow (F H F' H' : Hp) : Prop where
  h : Same H H'
  f : Same F F'
  s : Same F' H'
  n : ∀ b, F b = none → F' b ≠ none → H b = none
theorem Grow.refl {F H : Hp} (s : Same F H) : Grow F H F H := ⟨Same.refl _, Same.refl _, s, fun _ h h' => absurd h h'⟩
theorem same_upd {H : Hp} {p : Addr} {o : HO} (h : H p = none) : Same H (upd H p o) := fun b u e => by rw [upd_ne (ne_of_none e h)]; exact e
theorem same_upd2 {F H : Hp} {p : Addr} {o : HO} (s : Same F H) : Same (upd F p o) (upd H p o) := fun b u e => by
  by_cases hb : b = p
  · subst hb; rw [upd_same] at e ⊢; exact e
  · rw [upd_ne hb] at e ⊢; exact s b u e
theorem Grow.new {F H : Hp} {p : Addr} (o : HO) (s : Same F H) (h : H p = none) : Grow F H (upd F p o) (upd H p o) :=
  ⟨same_upd h, same_upd (s.free h), same_upd2 s, fun b e e' => by
    by_cases hb : b = p
    · subst hb; exact h
    · rw [upd_ne hb] at e'; exact absurd e e'⟩
theorem Grow.lay {F H : Hp} {p : Addr} (o : HO) (s : Same F H) (h : H p = none) : Grow F H F (upd H p o) :=
  ⟨same_upd h, Same.refl _, s.trans (same_upd h), fun b e e' => absurd e e'⟩
theorem Grow.trans {F H F1 H1 F2 H2 : Hp} (a : Grow F H F1 H1) (b : Grow F1 H1 F2 H2) : Grow F H F2 H2 :=
  ⟨a.h.trans b.h, a.f.trans b.f, b.s, fun c e e' => by
    by_cases q : F1 c = none
    · exact a.h.free (b.n c q e')
    · exact a.n c e q⟩
theorem Grow.step {K : Fg} {T : List Nat} {F H F' H' : Hp} {σ : Sg} {ρ : Rho} {fp : FP} (e : EnvOk K F H σ ρ fp) (g : Grow F H F' H') : EStep K T F H σ ρ fp F' H' ρ fp := by
  have nF : ∀ a, F a = none → H a ≠ none → F' a = none := fun a h h' => by
    cases q : F' a with
    | none => rfl
    | some o => exact absurd (g.n a h (by rw [q]; exact fun z => nomatch z)) h'
  have sH : ∀ a, H a ≠ none → H' a = H a := fun a h => by
    cases q : H a with
    | none => exact absurd q h
    | some u => exact g.h a u q
  refine ⟨⟨⟨g.s, e.len, fun i s h => ?_, e.nil, e.nd, e.ap, e.tb.same g.f g.h g.n, e.al' (fun _ _ _ h => ⟨h, rfl⟩) fun i _ _ h => ⟨h, rfl, fun b hb => sH b (e.there ⟨i, hb⟩).1⟩⟩, g.f, fun b h h' => .inl (g.n b h h'), fun b h => g.h.free h, fun b o h _ _ => g.h b o h, fun b h => .inl h, fun i m o h hm => ⟨rfl, m, o, h, hm⟩, fun i o h => ⟨rfl, h, rfl, fun b hb => sH b (e.there ⟨i, hb⟩).1⟩⟩, fun i m o h => ⟨o, h⟩, fun i _ => ⟨rfl, rfl, fun b hb => sH b (e.there ⟨i, hb⟩).1⟩⟩
  have q := e.sl i s h
  cases s with
  | no => trivial
  | al _ _ => trivial
  | val d => obtain ⟨u, e1, e2⟩ := q; exact ⟨u, e1, dq_mono g.f _ _ e2⟩
  | own m o =>
    obtain ⟨u, e1, e2⟩ := q
    exact ⟨u, e1, e2.move g.f fun b hb => ⟨sH b (e2.mem b hb).1, nF b (e2.mem b hb).2 (e2.mem b hb).1⟩⟩

structure Grow2 (K : Fg) (F H F' H' : Hp) : Prop where
  h : ∀ b o, H b = some o → (∀ ps, o ≠ .tbl ps) → H' b = some o
  d : ∀ b, H' b = none → H b = none
  f : Same F F'
  s : Same F' H'
  n : ∀ b, F b = none → F' b ≠ none → H b = none ∨ KT H b
  t : TbOk K F' H'
theorem Grow2.refl {K : Fg} {F H : Hp} (s : Same F H) (t : TbOk K F H) : Grow2 K F H F H := ⟨fun _ _ h _ => h, fun _ h => h, Same.refl _, s, fun _ h h' => absurd h h', t⟩
theorem Grow2.step {K : Fg} {T : List Nat} {F H F' H' : Hp} {σ : Sg} {ρ : Rho} {fp : FP} (e : EnvOk K F H σ ρ fp) (g : Grow2 K F H F' H') : EStep K T F H σ ρ fp F' H' ρ fp := by
  have nF : ∀ a, F a = none → H a ≠ none → ¬ KT H a → F' a = none := fun a h h' hk => by
    cases q : F' a with
    | none => rfl
    | some o => exact ((g.n a h (by rw [q]; exact fun z => nomatch z)).elim h' hk).elim
  have sH : ∀ a, Owns fp a → H' a = H a := fun a h => by
    cases q : H a with
    | none => exact absurd q (e.there h).1
    | some u => exact g.h a u q fun ps z => e.ntb h ps (z ▸ q)
  refine ⟨⟨⟨g.s, e.len, fun i s h => ?_, e.nil, e.nd, e.ap, g.t, e.al' (fun _ _ _ h => ⟨h, rfl⟩) fun i _ _ h => ⟨h, rfl, fun b hb => sH b ⟨i, hb⟩⟩⟩, g.f, fun b h h' => (g.n b h h').imp_right .inr, fun b h => g.d b h, fun b o h _ nt => g.h b o h nt, fun b h => .inl h, fun i m o h hm => ⟨rfl, m, o, h, hm⟩, fun i o h => ⟨rfl, h, rfl, fun b hb => sH b ⟨i, hb⟩⟩⟩, fun i m o h => ⟨o, h⟩, fun i _ => ⟨rfl, rfl, fun b hb => sH b ⟨i, hb⟩⟩⟩
  have q := e.sl i s h
  cases s with
  | no => trivial
  | al _ _ => trivial
  | val d => obtain ⟨u, e1, e2⟩ := q; exact ⟨u, e1, dq_mono g.f _ _ e2⟩
  | own m o =>
    obtain ⟨u, e1, e2⟩ := q
    exact ⟨u, e1, e2.move g.f fun b hb => ⟨sH b ⟨i, hb⟩, nF b (e2.mem b hb).2 (e2.mem b hb).1 (e2.nkt b hb)⟩⟩

inductive Rv where
  | d (x : PyData)
  | o (i : Nat)
noncomputable def RvOk (K : Fg) (F : Hp) (σ : Sg) (ρ : Rho) (v : V) : Rv → Prop
  | .d x => Dq K F v x
  | .o i => sg σ i = some v ∧ ∃ m t, ρ[i]? = some (Sl.own m t)
theorem RvOk.step {K : Fg} {T : List Nat} {F H F1 H1 : Hp} {σ : Sg} {ρ ρ1 : Rho} {fp fp1 : FP} {v : V} (a : EStep K T F H σ ρ fp F1 H1 ρ1 fp1) : ∀ {r : Rv}, RvOk K F σ ρ v r → RvOk K F1 σ ρ1 v r
  | .d _, h => dq_mono a.st.fr _ _ h
  | .o i, ⟨h, m, ob, e⟩ => ⟨h, let ⟨o', e'⟩ := a.ko i m ob e; ⟨m, o', e'⟩⟩
inductive RvsOk (K : Fg) (F : Hp) (σ : Sg) (ρ : Rho) : List V → List Rv → Prop
  | nil : RvsOk K F σ ρ [] []
  | cons {v vs r rs} : RvOk K F σ ρ v r → RvsOk K F σ ρ vs rs → RvsOk K F σ ρ (v :: vs) (r :: rs)
theorem RvsOk.step {K : Fg} {T : List Nat} {F H F1 H1 : Hp} {σ : Sg} {ρ ρ1 : Rho} {fp fp1 : FP} (a : EStep K T F H σ ρ fp F1 H1 ρ1 fp1) : ∀ {vs : List V} {rs : List Rv}, RvsOk K F σ ρ vs rs → RvsOk K F1 σ ρ1 vs rs
  | _, _, .nil => .nil
  | _, _, .cons h t => .cons (h.step a) (RvsOk.step a t)
structure NewOk (K : Fg) (H : Hp) (fp : FP) (F' H' : Hp) (fp' : FP) (v : V) (t : Tr) (A : List Addr) : Prop where
  ok : TrOk K F' H' v t A
  nd : A.Nodup
  new : ∀ b ∈ A, H b = none ∨ Owns fp b
  out : ∀ b ∈ A, ¬ Owns fp' b

inductive Er (α : Type) where
  | ok (a : α) (ρ : Rho)
  | ex (c : Str) (ρ : Rho)
noncomputable abbrev M (α : Type) := Rho → Option (Er α)
noncomputable def bnd {α β : Type} (f : M α) (k : α → M β) : M β := fun ρ => match f ρ with
  | some (.ok a ρ1) => k a ρ1
  | some (.ex c ρ1) => some (.ex c ρ1)
  | none => none
noncomputable def ret {α : Type} (a : α) : M α := fun ρ => some (.ok a ρ)
noncomputable abbrev WV := Str → Sg → Hp → Prop
structure Rl (K : Fg) (α β : Type) where
  r : Hp → FP → Hp → Hp → FP → Sg → Rho → β → α → Prop
  back : ∀ {T F H F1 H1 F2 H2 σ ρ ρ1 ρ2 fp fp1 fp2 b a}, EStep K T F H σ ρ fp F1 H1 ρ1 fp1 → r H1 fp1 F2 H2 fp2 σ ρ2 b a → r H fp F2 H2 fp2 σ ρ2 b a
noncomputable def Pst {α β : Type} {K : Fg} (T : List Nat) (W : WV) (R : Rl K α β) (F H : Hp) (σ : Sg) (ρ : Rho) (fp : FP) (Q : β → Hp → Prop) : Er α → Prop
  | .ok a ρ' => ∀ b H' F' fp', EStep K T F H σ ρ fp F' H' ρ' fp' → R.r H fp F' H' fp' σ ρ' b a → Q b H'
  | .ex c ρ' => ∀ H' F' fp', EStep K T F H σ ρ fp F' H' ρ' fp' → W c σ H'
noncomputable def TVg {α β : Type} {K : Fg} (T : List Nat) (W : WV) (R : Rl K α β) (f : M α) (σ : Sg) (H : Hp) (Q : β → Hp → Prop) : Prop :=
  ∃ F ρ fp o, EnvOk K F H σ ρ fp ∧ f ρ = some o ∧ Pst T W R F H σ ρ fp Q o
theorem Pst.step {α β : Type} {K : Fg} {T T' : List Nat} {W : WV} {R : Rl K α β} {F H F1 H1 : Hp} {σ : Sg} {ρ ρ1 : Rho} {fp fp1 : FP} {Q : β → Hp → Prop} (a : EStep K T F H σ ρ fp F1 H1 ρ1 fp1) (hT : ∀ i ∈ T, i ∈ T') :
    ∀ {o : Er α}, Pst T' W R F H σ ρ fp Q o → Pst T' W R F1 H1 σ ρ1 fp1 Q o
  | .ok _ _, h => fun b H' F' fp' e r => h b H' F' fp' ((a.sub hT).trans e) (R.back a r)
  | .ex _ _, h => fun H' F' fp' e => h H' F' fp' ((a.sub hT).trans e)
theorem tv_bnd {α β γ δ : Type} {K : Fg} {T T' : List Nat} {W : WV} {R : Rl K α β} {R2 : Rl K γ δ} {f : M α} {k : α → M γ} {F H : Hp} {σ : Sg} {ρ : Rho} {fp : FP} {o : Er γ} {Q : δ → Hp → Prop} {Q1 : β → Hp → Prop}
    (E : EnvOk K F H σ ρ fp) (e : bnd f k ρ = some o) (P : Pst T' W R2 F H σ ρ fp Q o) (hT : ∀ i ∈ T, i ∈ T')
    (hk : ∀ a ρ1 b H1 F1 fp1, EStep K T F H σ ρ fp F1 H1 ρ1 fp1 → R.r H fp F1 H1 fp1 σ ρ1 b a → k a ρ1 = some o → Pst T' W R2 F1 H1 σ ρ1 fp1 Q o → Q1 b H1) : TVg T W R f σ H Q1 := by
  unfold bnd at e
  cases q : f ρ with
  | none => rw [q] at e; cases e
  | some r =>
    rw [q] at e
    cases r with
    | ok a ρ1 => exact ⟨F, ρ, fp, _, E, q, fun b H1 F1 fp1 st r => hk a ρ1 b H1 F1 fp1 st r e (P.step st hT)⟩
    | ex c ρ1 =>
      cases e
      exact ⟨F, ρ, fp, _, E, q, fun H1 F1 fp1 st => P H1 F1 fp1 (st.sub hT)⟩
noncomputable def rlV (K : Fg) : Rl K Rv V := ⟨fun _ _ F' _ _ σ ρ' v r => RvOk K F' σ ρ' v r, fun _ h => h⟩
noncomputable def rlA (K : Fg) : Rl K (List Rv) (List V) := ⟨fun _ _ F' _ _ σ ρ' v r => RvsOk K F' σ ρ' v r, fun _ h => h⟩
noncomputable def rlT (K : Fg) : Rl K Bool Bool := ⟨fun _ _ _ _ _ _ _ v r => v = r, fun _ h => h⟩
noncomputable def rlN (K : Fg) : Rl K Tr V := ⟨fun H fp F' H' fp' _ _ v t => ∃ A, NewOk K H fp F' H' fp' v t A, fun e h => by
  obtain ⟨A, h⟩ := h
  refine ⟨A, h.ok, h.nd, fun b hb => ?_, h.out⟩
  rcases h.new b hb with z | z
  · exact .inl (e.st.dom b z)
  · exact (e.st.own b z).symm⟩
noncomputable abbrev tV (K : Fg) (T : List Nat) (W : WV) (f : M Rv) : TE := fun σ H Q => TVg T W (rlV K) f σ H Q
noncomputable abbrev tVN (K : Fg) (T : List Nat) (W : WV) (f : M Tr) : TE := fun σ H Q => TVg T W (rlN K) f σ H Q
noncomputable abbrev tVT (K : Fg) (T : List Nat) (W : WV) (f : M Bool) : TT := fun σ H Q => TVg T W (rlT K) f σ H Q
noncomputable abbrev tVA (K : Fg) (T : List Nat) (W : WV) (f : M (List Rv)) : TA := fun σ H Q => TVg T W (rlA K) f σ H Q
noncomputable def VE (X : Cx) (T : List Nat) (W : WV) (e : Expr) (f : M Rv) : Prop := PE X e (tV X.K T W f)
noncomputable def VN (X : Cx) (T : List Nat) (W : WV) (e : Expr) (f : M Tr) : Prop := PE X e (tVN X.K T W f)
noncomputable def VT (X : Cx) (T : List Nat) (W : WV) (e : Expr) (f : M Bool) : Prop := PT X e (tVT X.K T W f)
noncomputable def VW (X : Cx) (T : List Nat) (W : WV) (e : Expr) (f : M Bool) : Prop := PW X e (tVT X.K T W f)
noncomputable def VA (X : Cx) (T : List Nat) (W : WV) (es : List Expr) (f : M (List Rv)) : Prop := PA X es (tVA X.K T W f)
theorem pe_imp {X : Cx} {e : Expr} {t t' : TE} (h : PE X e t) (i : ∀ σ H Q, t' σ H Q → t σ H Q) : PE X e t' := ⟨fun pins s σ H Q I q => h.run pins s σ H Q I (i σ H Q q)⟩
theorem pt_imp {X : Cx} {e : Expr} {t t' : TT} (h : PT X e t) (i : ∀ σ H Q, t' σ H Q → t σ H Q) : PT X e t' := ⟨fun pins s σ H Q I q => h.run pins s σ H Q I (i σ H Q q)⟩
theorem pw_imp {X : Cx} {e : Expr} {t t' : TT} (h : PW X e t) (i : ∀ σ H Q, t' σ H Q → t σ H Q) : PW X e t' := ⟨fun wh pins s σ H Q I q => h.run wh pins s σ H Q I (i σ H Q q)⟩
theorem pa_imp {X : Cx} {e : List Expr} {t t' : TA} (h : PA X e t) (i : ∀ σ H Q, t' σ H Q → t σ H Q) : PA X e t' := ⟨fun pos pins s σ H Q I q => h.run pos pins s σ H Q I (i σ H Q q)⟩
theorem ps_imp {X : Cx} {e : Stmt} {t t' : TS} (h : PS X e t) (i : ∀ D σ H, t' D σ H → t D σ H) : PS X e t' := ⟨fun pins s σ H D I q => h.run pins s σ H D I (i D σ H q)⟩
theorem pss_imp {X : Cx} {e : List Stmt} {t t' : TS} (h : PSs X e t) (i : ∀ D σ H, t' D σ H → t D σ H) : PSs X e t' := ⟨fun pins s σ H D I q => h.run pins s σ H D I (i D σ H q)⟩

noncomputable def der (ρ : Rho) : Rv → Option PyData
  | .d x => some x
  | .o i => match ρ[i]? with
    | some (.own _ t) => t.toD
    | _ => none
noncomputable def flat : List Tr → Option (List PyData)
  | [] => some []
  | .dat d :: ts => (flat ts).map (d :: ·)
  | _ :: _ => none
noncomputable def derS (ρ : Rho) : Rv → Option PyData
  | .d x => some x
  | .o i => match ρ[i]? with
    | some (.own _ (.lst ts)) => (flat ts).map .list
    | _ => none
theorem flat_ok : ∀ {ts : List Tr} {ds : List PyData}, flat ts = some ds → ts = ds.map .dat
  | [], _, e => by simp only [flat] at e; cases e; rfl
  | .dat d :: ts, ds, e => by
    simp only [flat] at e
    cases z : flat ts with
    | none => rw [z] at e; cases e
    | some es => rw [z] at e; cases e; rw [flat_ok z]; rfl
  | .tup _ :: _, _, e => by simp [flat] at e
  | .lst _ :: _, _, e => by simp [flat] at e
  | .dk _ :: _, _, e => by simp [flat] at e
  | .dt _ :: _, _, e => by simp [flat] at e
  | .ins _ _ :: _, _, e => by simp [flat] at e
  | .fk _ :: _, _, e => by simp [flat] at e
  | .ft _ :: _, _, e => by simp [flat] at e
  | .raw _ :: _, _, e => by simp [flat] at e
  | .sd _ :: _, _, e => by simp [flat] at e
  | .hole :: _, _, e => by simp [flat] at e
theorem flat_dat : ∀ ds : List PyData, flat (ds.map .dat) = some ds
  | [] => rfl
  | d :: ds => by simp [flat, flat_dat ds]
theorem der_ok {K : Fg} {F H : Hp} {σ : Sg} {ρ : Rho} {fp : FP} {v : V} {d : PyData} (E : EnvOk K F H σ ρ fp) : ∀ {r : Rv}, RvOk K F σ ρ v r → der ρ r = some d → Dq K H v d
  | .d x, h, e => by simp only [der] at e; cases e; exact dq_mono E.sub _ _ h
  | .o i, ⟨h, m, t, e⟩, q => by
    simp only [der, e] at q
    obtain ⟨u, e1, e2⟩ := E.sl i _ e
    rw [h] at e1
    cases e1
    exact e2.dp E.sub (fun _ _ => rfl) q
noncomputable def DpS (K : Fg) (F H : Hp) (v : V) (d : PyData) : Prop := Dq K F v d ∨ ∃ a vs ds, v = .ref a ∧ d = .list ds ∧ H a = some (.lst vs) ∧ DqAll K F vs ds
theorem derS_ok {K : Fg} {F H : Hp} {σ : Sg} {ρ : Rho} {fp : FP} {v : V} {d : PyData} (E : EnvOk K F H σ ρ fp) : ∀ {r : Rv}, RvOk K F σ ρ v r → derS ρ r = some d → DpS K F H v d
  | .d x, h, e => by simp only [derS] at e; cases e; exact .inl h
  | .o i, ⟨h, m, t, e⟩, q => by
    simp only [derS, e] at q
    obtain ⟨u, e1, e2⟩ := E.sl i _ e
    rw [h] at e1
    cases e1
    cases t with
    | lst ts =>
      cases z : flat ts with
      | none => simp only [z] at q; cases q
      | some ds =>
        simp only [z] at q
        cases q
        have := flat_ok z
        subst this
        generalize fp i = A at e2
        cases e2 with
        | lst h1 h2 h3 =>
          obtain ⟨_, h4⟩ := trs_dat' h3
          exact .inr ⟨_, _, ds, rfl, rfl, h1, h4⟩
    | _ => cases q
theorem DpS.dp {K : Fg} {F H : Hp} {v : V} {d : PyData} (s : Same F H) (h : DpS K F H v d) : Dq K H v d := by
  rcases h with h | ⟨a, vs, ds, rfl, rfl, h1, h2⟩
  · exact dq_mono s _ _ h
  · exact .lst (.inl h1) (dqAll_mono s _ _ h2)
theorem DpS.list {K : Fg} {F H : Hp} {v : V} {ds : List PyData} (s : Same F H) (h : DpS K F H v (.list ds)) : ∃ a vs, v = .ref a ∧ Rd H a (.lst vs) ∧ DqAll K F vs ds := by
  rcases h with h | ⟨a, vs, ds', rfl, e, h1, h2⟩
  · cases h with
    | lst hs ha => exact ⟨_, _, rfl, rd_mono s hs, ha⟩
  · cases e; exact ⟨a, vs, rfl, .inl h1, h2⟩
theorem DpS.tup {K : Fg} {F H : Hp} {v : V} {ds : List PyData} (s : Same F H) (h : DpS K F H v (.tuple ds)) : ∃ a vs, v = .ref a ∧ SqT K H a vs ∧ DqAll K F vs ds ∧ Dq K F v (.tuple ds) := by
  rcases h with h | ⟨a, vs, ds', rfl, e, h1, h2⟩
  · cases h with
    | tups hs ha => exact ⟨_, _, rfl, (hs.mono s).sq, ha, .tups hs ha⟩
  · cases e
theorem DpS.int {K : Fg} {F H : Hp} {v : V} {i : Int} (h : DpS K F H v (.int i)) : v = .int i := by
  rcases h with h | ⟨a, vs, ds', rfl, e, h1, h2⟩
  · cases h; rfl
  · cases e
theorem DpS.bl {K : Fg} {F H : Hp} {v : V} {i : Bool} (h : DpS K F H v (.bool i)) : v = .bl i := by
  rcases h with h | ⟨a, vs, ds', rfl, e, h1, h2⟩
  · cases h; rfl
  · cases e
theorem DpS.str {K : Fg} {F H : Hp} {v : V} {i : Str} (h : DpS K F H v (.str i)) : v = .str i := by
  rcases h with h | ⟨a, vs, ds', rfl, e, h1, h2⟩
  · cases h; rfl
  · cases e
theorem DpS.non {K : Fg} {F H : Hp} {v : V} (h : DpS K F H v .none) : v = .non := by
  rcases h with h | ⟨a, vs, ds', rfl, e, h1, h2⟩
  · cases h; rfl
  · cases e
end VL

end

section
set_option Elab.async false
set_option linter.all false
set_option maxRecDepth 100000
namespace VL
open PySem PySem.Spec PyProof.Rows L2

section
variable {X : Cx} {T T1 T2 T3 : List Nat} {W : WV}
theorem ok_inj {α : Type} {a : α} {ρ : Rho} {o : Er α} (h : some (Er.ok a ρ) = some o) : o = .ok a ρ := (Option.some.inj h).symm

noncomputable def cD (x : PyData) : M Rv := ret (.d x)
theorem ve_int {i j pos} : VE X [] W (.Constant (.int i) j pos) (cD (.int i)) := pe_imp pe_int fun σ H Q ⟨F, ρ, fp, o, E, e, P⟩ => by
  cases ok_inj e
  exact P _ H F fp (.refl E) (.int i)
theorem ve_bl {i j pos} : VE X [] W (.Constant (.bool i) j pos) (cD (.bool i)) := pe_imp pe_bl fun σ H Q ⟨F, ρ, fp, o, E, e, P⟩ => by
  cases ok_inj e
  exact P _ H F fp (.refl E) (.bl i)
theorem ve_non {j pos} : VE X [] W (.Constant .none j pos) (cD .none) := pe_imp pe_non fun σ H Q ⟨F, ρ, fp, o, E, e, P⟩ => by
  cases ok_inj e
  exact P _ H F fp (.refl E) .non
theorem ve_str {i j pos} : VE X [] W (.Constant (.str i) j pos) (cD (.str i)) := pe_imp pe_str fun σ H Q ⟨F, ρ, fp, o, E, e, P⟩ => by
  cases ok_inj e
  exact P _ H F fp (.refl E) (.str i)
theorem ve_strC {i k : Str} (h : i = k) {j pos} : VE X [] W (.Constant (.str i) j pos) (cD (.str k)) := by
  subst h
  exact ve_str
noncomputable def cVar (i : Nat) : M Rv := fun ρ => match ρ[i]? with
  | some (.val d) => some (.ok (.d d) ρ)
  | some (.own _ (.dat d)) => some (.ok (.d d) ρ)
  | some (.own _ _) => some (.ok (.o i) ρ)
  | _ => none
theorem ve_var (i : Nat) {x : Str} {pos : Pos} (hN : X.N[i]? = some x := by rfl) (hv : Vis X.env.scope x := by first | exact Or.inl rfl | exact Or.inr (Or.inl rfl) | exact Or.inr (Or.inr rfl)) (hd : (x == ("__debug__" : Str)) = false := by decide)
    (hcd : (x == ("__classdict__" : Str)) = false := by decide) : VE X [] W (.Name x pos) (cVar i) := by
  refine pe_imp (pe_var hN hv hd hcd) fun σ H Q ⟨F, ρ, fp, o, E, e, P⟩ => ?_
  unfold cVar at e
  split at e
  · rename_i d h
    cases ok_inj e
    obtain ⟨u, hu, q⟩ := E.sl i _ h
    exact ⟨u, sg_some.mp hu, P u H F fp (.refl E) q⟩
  · rename_i m d h
    cases ok_inj e
    obtain ⟨u, hu, q⟩ := E.sl i _ h
    generalize fp i = A at q
    cases q with
    | dat q => exact ⟨u, sg_some.mp hu, P u H F fp (.refl E) q⟩
  · rename_i m t _ h
    cases ok_inj e
    obtain ⟨u, hu, q⟩ := E.sl i _ h
    exact ⟨u, sg_some.mp hu, P u H F fp (.refl E) ⟨hu, m, t, h⟩⟩
  · cases e
theorem ve_glob {x : Str} {d : PyData} {v : V} {u : Value} {pos : Pos} (hg : Gl X x) (hm : X.mg x = some u) (r : RelV v u) (hd : ∀ F, Dq X.K F v d) (hdb : (x == ("__debug__" : Str)) = false := by decide) : VE X [] W (.Name x pos) (cD d) :=
  pe_imp (pe_glob hg hm r hdb) fun σ H Q ⟨F, ρ, fp, o, E, e, P⟩ => by
    cases ok_inj e
    exact P _ H F fp (.refl E) (hd F)

noncomputable def OpOk (K : Fg) (r : R2) (g : PyData → PyData → Option PyData) : Prop := ∀ F H x y dx dy z Q, Same F H → DpS K F H x dx → DpS K F H y dy → g dx dy = some z → (∀ v F' H', Grow F H F' H' → Dq K F' v z → Q v H') → r x y H Q
noncomputable def bin1 (g : PyData → PyData → Option PyData) (x y : Rv) : M Rv := fun ρ => match derS ρ x, derS ρ y with
  | some a, some b => (match g a b with
    | some z => some (.ok (.d z) ρ)
    | none => none)
  | _, _ => none
noncomputable def cBin (g : PyData → PyData → Option PyData) (fa fb : M Rv) : M Rv := bnd fa fun x => bnd fb fun y => bin1 g x y
variable {fa fb fc : M Rv} {g : PyData → PyData → Option PyData} {r r' : R2} {a b c : Expr} {pos : Pos}
theorem tv_bin {σ : Sg} {H : Hp} {Q : VK} (hg : OpOk X.K r g) (h : tV X.K (T1 ++ T2) W (cBin g fa fb) σ H Q) : tOp r (tV X.K T1 W fa) (tV X.K T2 W fb) σ H Q := by
  obtain ⟨F, ρ, fp, o, E, e, P⟩ := h
  refine tv_bnd E e P (fun i hi => List.mem_append_left _ hi) fun x ρ1 v H1 F1 fp1 s1 r1 e1 P1 => ?_
  refine tv_bnd s1.env e1 P1 (fun i hi => List.mem_append_right _ hi) fun y ρ2 w H2 F2 fp2 s2 r2 e2 P2 => ?_
  unfold bin1 at e2
  split at e2
  · rename_i p q hp hq
    split at e2
    · rename_i z hz
      cases ok_inj e2
      exact hg F2 H2 v w p q z Q s2.env.sub (derS_ok s2.env (RvOk.step s2 r1) hp) (derS_ok s2.env r2 hq) hz fun v' F3 H3 gr dp => P2 v' H3 F3 fp2 (gr.step s2.env) dp
    · cases e2
  · cases e2
theorem ve_bin {op : Operator} (ho : OpR X (binaryOp op) r) (hg : OpOk X.K r g) (ha : VE X T1 W a fa) (hb : VE X T2 W b fb) : VE X (T1 ++ T2) W (.BinOp a op b pos) (cBin g fa fb) :=
  pe_imp (pe_op ho ha hb) fun σ H Q h => tv_bin hg h
noncomputable def OpOkD (K : Fg) (r : R2) (g : PyData → PyData → Option Bool) : Prop := ∀ H x y dx dy z (Q : VK), Dq K H x dx → Dq K H y dy → g dx dy = some z → Q (.bl z) H → r x y H Q
noncomputable def binD (g : PyData → PyData → Option Bool) (x y : Rv) : M Bool := fun ρ => match der ρ x, der ρ y with
  | some a, some b => (match g a b with
    | some z => some (.ok z ρ)
    | none => none)
  | _, _ => none
noncomputable def cCmp (g : PyData → PyData → Option Bool) (fa fb : M Rv) : M Bool := bnd fa fun x => bnd fb fun y => binD g x y
noncomputable def cOf (f : M Bool) : M Rv := bnd f fun b => ret (.d (.bool b))
variable {gd gd' : PyData → PyData → Option Bool} {fA fB : M Bool}
theorem tv_cmp {σ : Sg} {H : Hp} {Q : Bool → Hp → Prop} (hg : OpOkD X.K r gd) (h : tVT X.K (T1 ++ T2) W (cCmp gd fa fb) σ H Q) : tTest (tOp r (tV X.K T1 W fa) (tV X.K T2 W fb)) σ H Q := by
  obtain ⟨F, ρ, fp, o, E, e, P⟩ := h
  refine tv_bnd E e P (fun i hi => List.mem_append_left _ hi) fun x ρ1 v H1 F1 fp1 s1 r1 e1 P1 => ?_
  refine tv_bnd s1.env e1 P1 (fun i hi => List.mem_append_right _ hi) fun y ρ2 w H2 F2 fp2 s2 r2 e2 P2 => ?_
  unfold binD at e2
  split at e2
  · rename_i p q hp hq
    split at e2
    · rename_i z hz
      cases ok_inj e2
      exact hg H2 v w p q z _ (der_ok s2.env (RvOk.step s2 r1) hp) (der_ok s2.env r2 hq) hz ⟨z, rfl, P2 z H2 F2 fp2 (.refl s2.env) rfl⟩
    · cases e2
  · cases e2
theorem vt_cmp {op : CmpOp} (ho : OpR X (compareOp op) r) (hg : OpOkD X.K r gd) (ha : VE X T1 W a fa) (hb : VE X T2 W b fb) (hm : behindInMarks op b = false) : VT X (T1 ++ T2) W (.Compare a [op] [b] pos) (cCmp gd fa fb) :=
  pt_imp (pt_cmpR ho ha hb hm) fun σ H Q h => tv_cmp hg h
theorem of_cOf {K : Fg} {f : M Bool} {σ : Sg} {H : Hp} {Q : VK} (h : tV K T W (cOf f) σ H Q) : tVT K T W f σ H fun b H1 => Q (.bl b) H1 := by
  obtain ⟨F, ρ, fp, o, E, e, P⟩ := h
  refine tv_bnd E e P (fun i hi => hi) fun x ρ1 v H1 F1 fp1 s1 r1 e1 P1 => ?_
  cases ok_inj e1
  have r1 : v = x := r1
  subst r1
  exact P1 _ H1 F1 fp1 (.refl s1.env) (.bl v)
theorem ve_cmp {op : CmpOp} (ho : OpR X (compareOp op) r) (hg : OpOkD X.K r gd) (ha : VE X T1 W a fa) (hb : VE X T2 W b fb) (hm : behindInMarks op b = false) : VE X (T1 ++ T2) W (.Compare a [op] [b] pos) (cOf (cCmp gd fa fb)) := by
  refine pe_imp (pe_cmpR ho ha hb hm) fun σ H Q h => ?_
  obtain ⟨F, ρ, fp, o, E, e, P⟩ := of_cOf h
  refine tv_bnd E e P (fun i hi => List.mem_append_left _ hi) fun x ρ1 v H1 F1 fp1 s1 r1 e1 P1 => ?_
  refine tv_bnd s1.env e1 P1 (fun i hi => List.mem_append_right _ hi) fun y ρ2 w H2 F2 fp2 s2 r2 e2 P2 => ?_
  unfold binD at e2
  split at e2
  · rename_i p q hp hq
    split at e2
    · rename_i z hz
      cases ok_inj e2
      exact hg H2 v w p q z _ (der_ok s2.env (RvOk.step s2 r1) hp) (der_ok s2.env r2 hq) hz (P2 z H2 F2 fp2 (.refl s2.env) rfl)
    · cases e2
  · cases e2
noncomputable def cChain (g g' : PyData → PyData → Option Bool) (fa fb fc : M Rv) : M Bool := bnd fa fun x => bnd fb fun y => bnd (binD g x y) fun k => if k then bnd fc fun z => binD g' y z else ret false
theorem tv_chain {σ : Sg} {H : Hp} {Q : VK} (hg : OpOkD X.K r gd) (hg' : OpOkD X.K r' gd') (h : tVT X.K (T1 ++ T2 ++ T3) W (cChain gd gd' fa fb fc) σ H fun b H1 => Q (.bl b) H1) :
    tChain r r' (tV X.K T1 W fa) (tV X.K T2 W fb) (tV X.K T3 W fc) σ H Q := by
  obtain ⟨F, ρ, fp, o, E, e, P⟩ := h
  refine tv_bnd E e P (fun i hi => List.mem_append_left _ (List.mem_append_left _ hi)) fun x ρ1 v H1 F1 fp1 s1 r1 e1 P1 => ?_
  refine tv_bnd s1.env e1 P1 (fun i hi => List.mem_append_left _ (List.mem_append_right _ hi)) fun y ρ2 w H2 F2 fp2 s2 r2 e2 P2 => ?_
  unfold bnd at e2
  split at e2
  · rename_i k ρ3 hk
    unfold binD at hk
    split at hk
    · rename_i p q hp hq
      split at hk
      · rename_i z hz
        cases ok_inj hk
        refine hg H2 v w p q _ _ (der_ok s2.env (RvOk.step s2 r1) hp) (der_ok s2.env r2 hq) hz ⟨_, rfl, ?_⟩
        cases k with
        | false =>
          simp only [Bool.false_eq_true, if_false] at e2 ⊢
          cases ok_inj e2
          exact P2 false H2 F2 fp2 (.refl s2.env) rfl
        | true =>
          simp only [if_true] at e2 ⊢
          refine tv_bnd s2.env e2 P2 (fun i hi => List.mem_append_right _ hi) fun y' ρ3 w' H3 F3 fp3 s3 r3 e3 P3 => ?_
          unfold binD at e3
          split at e3
          · rename_i p' q' hp' hq'
            split at e3
            · rename_i z' hz'
              cases ok_inj e3
              exact hg' H3 w w' p' q' z' _ (der_ok s3.env (RvOk.step s3 r2) hp') (der_ok s3.env r3 hq') hz' (P3 z' H3 F3 fp3 (.refl s3.env) rfl)
            · cases e3
          · cases e3
      · cases hk
    · cases hk
  · rename_i k ρ3 hk
    unfold binD at hk
    split at hk
    · split at hk
      · cases hk
      · cases hk
    · cases hk
  · cases e2
theorem ve_chain {op op' : CmpOp} (ho : OpR X (compareOp op) r) (ho' : OpR X (compareOp op') r') (hg : OpOkD X.K r gd) (hg' : OpOkD X.K r' gd') (ha : VE X T1 W a fa) (hb : VE X T2 W b fb) (hc : VE X T3 W c fc)
    (hm : lastMarks [op, op'] [b, c] = false := by with_unfolding_all rfl) : VE X (T1 ++ T2 ++ T3) W (.Compare a [op, op'] [b, c] pos) (cOf (cChain gd gd' fa fb fc)) :=
  pe_imp (pe_chain ho ho' ha hb hc hm) fun σ H Q h => tv_chain hg hg' (of_cOf h)
theorem vt_chain {op op' : CmpOp} (ho : OpR X (compareOp op) r) (ho' : OpR X (compareOp op') r') (hg : OpOkD X.K r gd) (hg' : OpOkD X.K r' gd') (ha : VE X T1 W a fa) (hb : VE X T2 W b fb) (hc : VE X T3 W c fc)
    (hm : lastMarks [op, op'] [b, c] = false := by with_unfolding_all rfl) : VT X (T1 ++ T2 ++ T3) W (.Compare a [op, op'] [b, c] pos) (cChain gd gd' fa fb fc) :=
  pt_imp (pt_chain ho ho' ha hb hc hm) fun σ H Q h => by
    refine tv_chain hg hg' (Q := fun x H' => ∃ k, x = V.bl k ∧ Q k H') ?_
    obtain ⟨F, ρ, fp, o, E, e, P⟩ := h
    refine ⟨F, ρ, fp, o, E, e, ?_⟩
    cases o with
    | ok a ρ' => exact fun b' H' F' fp' s r => ⟨b', rfl, P b' H' F' fp' s r⟩
    | ex c ρ' => exact P

noncomputable def asB (ρ : Rho) (x : Rv) : Option Bool := match der ρ x with
  | some (.bool b) => some b
  | _ => none
noncomputable def cTest (f : M Rv) : M Bool := bnd f fun x => fun ρ => match asB ρ x with
  | some b => some (.ok b ρ)
  | none => none
theorem tv_test {σ : Sg} {H : Hp} {Q : Bool → Hp → Prop} (h : tVT X.K T W (cTest fa) σ H Q) : TVg T W (rlV X.K) fa σ H fun x H1 => ∃ c, x = V.bl c ∧ Q c H1 := by
  obtain ⟨F, ρ, fp, o, E, e, P⟩ := h
  refine tv_bnd E e P (fun i hi => hi) fun x ρ1 v H1 F1 fp1 s1 r1 e1 P1 => ?_
  split at e1
  · rename_i b hb
    cases ok_inj e1
    unfold asB at hb
    split at hb
    · rename_i b' hd
      cases hb
      have q := der_ok s1.env r1 hd
      cases q
      exact ⟨_, rfl, P1 _ H1 F1 fp1 (.refl s1.env) rfl⟩
    · cases hb
  · cases e1
theorem vt_val (ha : VE X T W a fa) (he : ∀ whole, isTrue a X.env whole = (do let v ← whole; standAt a.pos; holding [v] (truthy v)) := by intro _; rfl) : VT X T W a (cTest fa) :=
  pt_imp (pt_val ha he) fun σ H Q h => tv_test h
noncomputable def cNot (f : M Bool) : M Bool := bnd f fun b => ret (!b)
theorem tv_not {K : Fg} {σ : Sg} {H : Hp} {Q : Bool → Hp → Prop} (h : tVT K T W (cNot fA) σ H Q) : tVT K T W fA σ H fun c H1 => Q (!c) H1 := by
  obtain ⟨F, ρ, fp, o, E, e, P⟩ := h
  refine tv_bnd E e P (fun i hi => hi) fun x ρ1 v H1 F1 fp1 s1 r1 e1 P1 => ?_
  cases ok_inj e1
  have r1 : v = x := r1
  subst r1
  exact P1 _ H1 F1 fp1 (.refl s1.env) rfl
theorem vt_not (ha : VT X T W a fA) : VT X T W (.UnaryOp .Not a pos) (cNot fA) := pt_imp (pt_not ha) fun σ H Q h => tv_not h
noncomputable def cAnd (f g : M Bool) : M Bool := bnd f fun b => if b then g else ret false
noncomputable def cOr (f g : M Bool) : M Bool := bnd f fun b => if b then ret true else g
variable {rest : List Expr}
theorem vw_and1 (ha : VT X T W a fA) : VW X T W (.BoolOp .And [a] pos) fA := pw_and1 ha
theorem vw_or1 (ha : VT X T W a fA) : VW X T W (.BoolOp .Or [a] pos) fA := pw_or1 ha
theorem vw_and (ha : VT X T1 W a fA) (hb : VW X T2 W (.BoolOp .And (b :: rest) pos) fB) : VW X (T1 ++ T2) W (.BoolOp .And (a :: b :: rest) pos) (cAnd fA fB) :=
  pw_imp (pw_and ha hb) fun σ H Q ⟨F, ρ, fp, o, E, e, P⟩ => by
    refine tv_bnd E e P (fun i hi => List.mem_append_left _ hi) fun x ρ1 v H1 F1 fp1 s1 r1 e1 P1 => ?_
    have r1 : v = x := r1
    subst r1
    cases v with
    | true =>
      rw [if_pos rfl] at e1 ⊢
      refine ⟨F1, ρ1, fp1, o, s1.env, e1, ?_⟩
      cases o with
      | ok a ρ' => exact fun b' H' F' fp' s r => P1 b' H' F' fp' (s.sub fun i hi => List.mem_append_right _ hi) r
      | ex c ρ' => exact fun H' F' fp' s => P1 H' F' fp' (s.sub fun i hi => List.mem_append_right _ hi)
    | false =>
      rw [if_neg Bool.false_ne_true] at e1 ⊢
      cases ok_inj e1
      exact P1 _ H1 F1 fp1 (.refl s1.env) rfl
theorem vw_or (ha : VT X T1 W a fA) (hb : VW X T2 W (.BoolOp .Or (b :: rest) pos) fB) : VW X (T1 ++ T2) W (.BoolOp .Or (a :: b :: rest) pos) (cOr fA fB) :=
  pw_imp (pw_or ha hb) fun σ H Q ⟨F, ρ, fp, o, E, e, P⟩ => by
    refine tv_bnd E e P (fun i hi => List.mem_append_left _ hi) fun x ρ1 v H1 F1 fp1 s1 r1 e1 P1 => ?_
    have r1 : v = x := r1
    subst r1
    cases v with
    | false =>
      rw [if_neg Bool.false_ne_true] at e1 ⊢
      refine ⟨F1, ρ1, fp1, o, s1.env, e1, ?_⟩
      cases o with
      | ok a ρ' => exact fun b' H' F' fp' s r => P1 b' H' F' fp' (s.sub fun i hi => List.mem_append_right _ hi) r
      | ex c ρ' => exact fun H' F' fp' s => P1 H' F' fp' (s.sub fun i hi => List.mem_append_right _ hi)
    | true =>
      rw [if_pos rfl] at e1 ⊢
      cases ok_inj e1
      exact P1 _ H1 F1 fp1 (.refl s1.env) rfl
theorem vw_pt (h : VW X T W a fA) : VT X T W a fA := PW.pt h
noncomputable def cAndV (f : M Rv) (g : M Rv) : M Rv := bnd (cTest f) fun b => if b then g else ret (.d (.bool false))
noncomputable def cOrV (f : M Rv) (g : M Rv) : M Rv := bnd (cTest f) fun b => if b then ret (.d (.bool true)) else g
theorem ve_one {op} (h : VE X T W a fa) : VE X T W (.BoolOp op [a] pos) fa := pe_one h
theorem tv_cond {K : Fg} {γ δ : Type} {R : Rl K γ δ} {f : M γ} {σ : Sg} {F H : Hp} {ρ : Rho} {fp : FP} {o : Er γ} {Q : δ → Hp → Prop} (E : EnvOk K F H σ ρ fp) (e : f ρ = some o) (P : Pst T W R F H σ ρ fp Q o) (hT : ∀ i ∈ T1, i ∈ T) : TVg T1 W R f σ H Q := by
  refine ⟨F, ρ, fp, o, E, e, ?_⟩
  cases o with
  | ok a ρ' => exact fun b' H' F' fp' s r => P b' H' F' fp' (s.sub hT) r
  | ex c ρ' => exact fun H' F' fp' s => P H' F' fp' (s.sub hT)
theorem tv_tbnd {K : Fg} {γ δ : Type} {R : Rl K γ δ} {f : M Rv} {k : Bool → M γ} {σ : Sg} {F H : Hp} {ρ : Rho} {fp : FP} {o : Er γ} {Q : δ → Hp → Prop} {Q1 : VK} (E : EnvOk K F H σ ρ fp) (e : bnd (cTest f) k ρ = some o) (P : Pst T W R F H σ ρ fp Q o) (hT : ∀ i ∈ T1, i ∈ T)
    (hk : ∀ b ρ1 H1 F1 fp1, EStep K T1 F H σ ρ fp F1 H1 ρ1 fp1 → k b ρ1 = some o → Pst T W R F1 H1 σ ρ1 fp1 Q o → Q1 (.bl b) H1) : TVg T1 W (rlV K) f σ H Q1 := by
  have e' : bnd f (fun x => bnd (fun ρ => match asB ρ x with | some b => some (.ok b ρ) | none => none) k) ρ = some o := by
    rw [← e]
    unfold cTest bnd
    cases f ρ with
    | none => rfl
    | some r => cases r <;> rfl
  refine tv_bnd E e' P hT fun x ρ1 v H1 F1 fp1 s1 r1 e1 P1 => ?_
  unfold bnd at e1
  cases hb : asB ρ1 x with
  | none => simp only [hb] at e1; cases e1
  | some b =>
    simp only [hb] at e1
    unfold asB at hb
    split at hb
    · rename_i b' hd
      cases hb
      have q := der_ok s1.env r1 hd
      cases q
      exact hk _ ρ1 H1 F1 fp1 s1 e1 P1
    · cases hb
theorem ve_and (ha : VE X T1 W a fa) (hb : VE X T2 W (.BoolOp .And (b :: rest) pos) fb) : VE X (T1 ++ T2) W (.BoolOp .And (a :: b :: rest) pos) (cAndV fa fb) :=
  pe_imp (L2.pe_and ha hb) fun σ H Q ⟨F, ρ, fp, o, E, e, P⟩ => by
    refine tv_tbnd E e P (fun i hi => List.mem_append_left _ hi) fun v ρ1 H1 F1 fp1 s1 e1 P1 => ⟨v, rfl, ?_⟩
    cases v with
    | true =>
      rw [if_pos rfl] at e1 ⊢
      exact tv_cond s1.env e1 P1 fun i hi => List.mem_append_right _ hi
    | false =>
      rw [if_neg Bool.false_ne_true] at e1 ⊢
      cases ok_inj e1
      exact P1 _ H1 F1 fp1 (.refl s1.env) (.bl _)
noncomputable def cNotV (f : M Rv) : M Rv := bnd (cTest f) fun b => ret (.d (.bool (!b)))
theorem ve_not (ha : VE X T W a fa) : VE X T W (.UnaryOp .Not a pos) (cNotV fa) :=
  pe_imp (L2.pe_not ha) fun σ H Q ⟨F, ρ, fp, o, E, e, P⟩ => by
    refine tv_tbnd E e P (fun i hi => hi) fun v ρ1 H1 F1 fp1 s1 e1 P1 => ⟨v, rfl, ?_⟩
    cases ok_inj e1
    exact P1 _ H1 F1 fp1 (.refl s1.env) (.bl _)
noncomputable def cIf {α : Type} (c : M Bool) (f g : M α) : M α := bnd c fun b => if b then f else g
theorem ve_if (hc : VT X T1 W c fA) (ha : VE X T2 W a fa) (hb : VE X T3 W b fb) : VE X (T1 ++ T2 ++ T3) W (.IfExp c a b pos) (cIf fA fa fb) :=
  pe_imp (pe_ifExp hc ha hb) fun σ H Q ⟨F, ρ, fp, o, E, e, P⟩ => by
    refine tv_bnd E e P (fun i hi => List.mem_append_left _ (List.mem_append_left _ hi)) fun x ρ1 v H1 F1 fp1 s1 r1 e1 P1 => ?_
    have r1 : v = x := r1
    subst r1
    cases v with
    | true =>
      rw [if_pos rfl] at e1 ⊢
      exact tv_cond s1.env e1 P1 fun i hi => List.mem_append_left _ (List.mem_append_right _ hi)
    | false =>
      rw [if_neg Bool.false_ne_true] at e1 ⊢
      exact tv_cond s1.env e1 P1 fun i hi => List.mem_append_right _ hi

noncomputable def aNil : M (List Rv) := ret []
noncomputable def aCons (f : M Rv) (g : M (List Rv)) : M (List Rv) := bnd f fun x => bnd g fun xs => ret (x :: xs)
variable {es : List Expr} {e : Expr} {fs : M (List Rv)}
theorem va_nil : VA X [] W [] aNil := pa_imp pa_nil fun σ H Q ⟨F, ρ, fp, o, E, e, P⟩ => by
  cases ok_inj e
  exact P _ H F fp (.refl E) .nil
theorem va_cons (ha : VE X T1 W e fa) (hb : VA X T2 W es fs) (hs : starEach (e :: es) X.env = (false, eval e X.env) :: starEach es X.env := by rfl) : VA X (T1 ++ T2) W (e :: es) (aCons fa fs) :=
  pa_imp (pa_cons ha hb hs) fun σ H Q ⟨F, ρ, fp, o, E, e, P⟩ => by
    refine tv_bnd E e P (fun i hi => List.mem_append_left _ hi) fun x ρ1 v H1 F1 fp1 s1 r1 e1 P1 => ?_
    refine tv_bnd s1.env e1 P1 (fun i hi => List.mem_append_right _ hi) fun y ρ2 w H2 F2 fp2 s2 r2 e2 P2 => ?_
    cases ok_inj e2
    exact P2 _ H2 F2 fp2 (.refl s2.env) (.cons (RvOk.step s2 r1) r2)
noncomputable def datas : List Rv → Option (List PyData)
  | [] => some []
  | .d x :: rs => (datas rs).map (x :: ·)
  | .o _ :: _ => none
theorem datas_ok {K : Fg} {F : Hp} {σ : Sg} {ρ : Rho} : ∀ {vs : List V} {rs : List Rv} {ds : List PyData}, RvsOk K F σ ρ vs rs → datas rs = some ds → DqAll K F vs ds
  | _, _, _, .nil, e => by simp only [datas] at e; cases e; exact .nil
  | _, .d x :: rs, _, .cons h t, e => by
    simp only [datas] at e
    cases q : datas rs with
    | none => rw [q] at e; cases e
    | some ds => rw [q] at e; cases e; exact .cons h (datas_ok t q)
  | _, .o _ :: _, _, .cons _ _, e => by simp [datas] at e
noncomputable def small (n : Nat) : Bool := decide (n ≤ sizeLine)
noncomputable def mkTup (rs : List Rv) : M Rv := fun ρ => match datas rs with
  | some ds => if small ds.length then some (.ok (.d (.tuple ds)) ρ) else none
  | none => none
noncomputable def cTup (fs : M (List Rv)) : M Rv := bnd fs mkTup
theorem ve_tup {x1} (h : VA X T W es fs) : VE X T W (.Tuple es x1 pos) (cTup fs) := pe_imp (pe_tup h) fun σ H Q ⟨F, ρ, fp, o, E, e, P⟩ => by
  refine tv_bnd E e P (fun i hi => hi) fun rs ρ1 vs H1 F1 fp1 s1 r1 e1 P1 => ?_
  unfold mkTup at e1
  split at e1
  · rename_i ds hd
    split at e1
    · rename_i hz
      cases ok_inj e1
      have q := datas_ok r1 hd
      refine ⟨by rw [dqAll_len q]; exact of_decide_eq_true hz, fun p np => P1 _ _ _ fp1 ((Grow.new (.tup vs) s1.env.sub np).step s1.env) ?_⟩
      exact .tup upd_same (dqAll_mono (same_upd (s1.env.sub.free np)) _ _ q)
    · cases e1
  · cases e1
noncomputable def mkLst (rs : List Rv) : M Tr := fun ρ => match datas rs with
  | some ds => if small ds.length then some (.ok (.lst (ds.map .dat)) ρ) else none
  | none => none
noncomputable def nLst (fs : M (List Rv)) : M Tr := bnd fs mkLst
theorem new_lst {K : Fg} {T : List Nat} {F H : Hp} {σ : Sg} {ρ : Rho} {fp : FP} {p : Addr} {vs : List V} {ds : List PyData} (E : EnvOk K F H σ ρ fp) (np : H p = none) (q : DqAll K F vs ds) :
    EStep K T F H σ ρ fp F (upd H p (.lst vs)) ρ fp ∧ NewOk K H fp F (upd H p (.lst vs)) fp (.ref p) (.lst (ds.map .dat)) [p] := by
  refine ⟨(Grow.lay (.lst vs) E.sub np).step E, .lst upd_same (E.sub.free np) (trs_dat q), by simp, fun b hb => ?_, fun b hb ho => ?_⟩
  · rw [List.mem_singleton.mp hb]; exact .inl np
  · rw [List.mem_singleton.mp hb] at ho
    exact (E.there ho).1 np
theorem vn_lst (h : VA X T W es fs) : VN X T W (.List es pos) (nLst fs) := pe_imp (pe_lst h) fun σ H Q ⟨F, ρ, fp, o, E, e, P⟩ => by
  refine tv_bnd E e P (fun i hi => hi) fun rs ρ1 vs H1 F1 fp1 s1 r1 e1 P1 => ?_
  unfold mkLst at e1
  split at e1
  · rename_i ds hd
    split at e1
    · rename_i hz
      cases ok_inj e1
      have q := datas_ok r1 hd
      refine ⟨by rw [dqAll_len q]; exact of_decide_eq_true hz, fun p np => ?_⟩
      have z := new_lst (T := T) s1.env np q
      exact P1 _ _ _ fp1 z.1 ⟨_, z.2⟩
    · cases e1
  · cases e1
noncomputable def cFrz (f : M Tr) : M Rv := bnd f fun t => fun ρ => match t.toD with
  | some d => some (.ok (.d d) ρ)
  | none => none
theorem frz_step {K : Fg} {T : List Nat} {F H : Hp} {σ : Sg} {ρ : Rho} {fp : FP} {A : List Addr} (E : EnvOk K F H σ ρ fp) (hA : ∀ b ∈ A, H b ≠ none ∧ F b = none) (hn : ∀ b ∈ A, ∀ ps, H b ≠ some (.tbl ps)) (ho : ∀ b ∈ A, ¬ Owns fp b) :
    EnvOk K (frz F H A) H σ ρ fp := by
  refine ⟨frz_sub E.sub, E.len, fun i s h => ?_, E.nil, E.nd, E.ap, E.tb.frz (fun b hb => (hA b hb).2) hn, E.al⟩
  have q := E.sl i s h
  have s1 : Same F (frz F H A) := frz_same fun b hb => (hA b hb).2
  cases s with
  | no => trivial
  | al _ _ => trivial
  | val d => obtain ⟨u, e1, e2⟩ := q; exact ⟨u, e1, dq_mono s1 _ _ e2⟩
  | own m t =>
    obtain ⟨u, e1, e2⟩ := q
    refine ⟨u, e1, e2.move s1 fun b hb => ⟨rfl, ?_⟩⟩
    unfold frz
    rw [if_neg fun z => ho b z ⟨i, hb⟩]
    exact (e2.mem b hb).2
theorem tv_frz {K : Fg} {f : M Tr} {σ : Sg} {H : Hp} {Q : VK} (h : tV K T W (cFrz f) σ H Q) : tVN K T W f σ H Q := by
  obtain ⟨F, ρ, fp, o, E, e, P⟩ := h
  unfold cFrz bnd at e
  cases hf : f ρ with
  | none => rw [hf] at e; cases e
  | some r =>
    cases r with
    | ex c ρ1 => rw [hf] at e; cases e; exact ⟨F, ρ, fp, _, E, hf, fun H1 F1 fp1 st => P H1 F1 fp1 st⟩
    | ok t ρ1 =>
      rw [hf] at e
      refine ⟨F, ρ, fp, _, E, hf, fun v H1 F1 fp1 s1 ⟨A, n⟩ => ?_⟩
      simp only at e
      split at e
      · rename_i d hd
        cases ok_inj e
        have hA := n.ok.mem
        have E2 := frz_step (T := T) s1.env hA n.ok.ntb n.out
        refine P v H1 (frz F1 H1 A) fp1 ⟨⟨E2, s1.st.fr.trans (frz_same fun b hb => (hA b hb).2), fun b h h' => ?_, s1.st.dom, s1.st.frame, s1.st.own, s1.st.pin, s1.st.lock⟩, s1.ko, s1.un⟩ ?_
        · by_cases hb : b ∈ A
          · exact (n.new b hb).imp_right .inl
          · unfold frz at h'
            rw [if_neg hb] at h'
            exact s1.st.nf b h h'
        · refine n.ok.dp (frz_same fun b hb => (hA b hb).2) (fun b hb => ?_) hd
          unfold frz
          rw [if_pos hb]
      · cases e
theorem ve_frz {f : M Tr} (h : VN X T W e f) : VE X T W e (cFrz f) := pe_imp h fun σ H Q q => tv_frz q
noncomputable def nDat (f : M Rv) : M Tr := bnd f fun x => fun ρ => match x with
  | .d d => some (.ok (.dat d) ρ)
  | .o _ => none
theorem vn_dat (h : VE X T W e fa) : VN X T W e (nDat fa) := pe_imp h fun σ H Q ⟨F, ρ, fp, o, E, q, P⟩ => by
  refine tv_bnd E q P (fun i hi => hi) fun x ρ1 v H1 F1 fp1 s1 r1 e1 P1 => ?_
  cases x with
  | o i => cases e1
  | d d =>
    cases ok_inj e1
    exact P1 _ _ _ fp1 (.refl s1.env) ⟨[], .dat r1, List.nodup_nil, (fun b hb => nomatch hb), (fun b hb => nomatch hb)⟩
end
end VL

end

section
set_option Elab.async false
set_option linter.all false
set_option maxRecDepth 100000
set_option exponentiation.threshold 3000
namespace VL
open PySem PySem.Spec PyProof.Rows L2

section
variable {X : Cx} {T T1 T2 T3 : List Nat} {W : WV} {K : Fg}
theorem opr_or {f : Value → Value → Sem Value} {r r' : R2} (h : OpR X f r) (h' : OpR X f r') : OpR X f (fun x y H Q => r x y H Q ∨ r' x y H Q) :=
  fun pins s σ H x y v u Q I rx ry q => q.elim (h pins s σ H x y v u Q I rx ry) (h' pins s σ H x y v u Q I rx ry)
theorem lstR {pins : List (Addr × Obj)} {σ : Sg} {H : Hp} {s : Shared} {l : Addr} {xs : List V} (I : Inv X pins σ H s) (hH : Rd H l (.lst xs)) : xs.length ≤ sizeLine ∧ ∃ (its : List Value) (n : Nat), Vals xs its ∧ xs.length = its.length ∧ s.heap.get? l = some { cls := .type "list", data := .seq its.toArray n } := by
  obtain ⟨z, its, n, r, e⟩ := hH.ok I.hok
  exact ⟨z, its, n, r, r.length, e⟩
noncomputable def rCatR : R2 := fun x y H Q => ∃ l b xs zs, x = .ref l ∧ y = .ref b ∧ Rd H l (.lst xs) ∧ Rd H b (.lst zs) ∧ xs.length + zs.length ≤ sizeLine ∧ ∀ p, H p = none → Q (.ref p) (upd H p (.lst (xs ++ zs)))
theorem op_catR : OpR X (binaryOp .Add) rCatR := by
  intro pins s σ H x y v u Q I rx ry h
  obtain ⟨l, b, xs, zs, rfl, rfl, hH, hB, hz, q⟩ := h
  cases rx
  cases ry
  obtain ⟨z, its, n, r, hl, e⟩ := lstR I hH
  obtain ⟨z2, its2, n2, r2, hl2, e2⟩ := lstR I hB
  refine PySem.P.add_list e e2 ?_ (by rw [List.size_toArray, List.size_toArray]; omega)
  have ea : its.toArray ++ its2.toArray = (its ++ its2).toArray := by simp
  rw [ea]
  exact ⟨.ref _, _, I.lnew (t' := s.toks) (r.append r2) (by rw [List.length_append]; omega), rfl, q _ I.fresh⟩
theorem rep_all {F : Hp} {vs : List V} {ds : List PyData} (h : DqAll K F vs ds) : ∀ n : Nat, DqAll K F (List.replicate n vs).flatten (List.replicate n ds).flatten
  | 0 => .nil
  | n + 1 => by
    rw [List.replicate_succ, List.replicate_succ, List.flatten_cons, List.flatten_cons]
    exact dqAll_app h (rep_all h n)

noncomputable def addD : PyData → PyData → Option PyData
  | .int i, .int j => some (.int (i + j))
  | .tuple xs, .tuple ys => if small (xs.length + ys.length) then some (.tuple (xs ++ ys)) else none
  | .list xs, .list ys => if small (xs.length + ys.length) then some (.list (xs ++ ys)) else none
  | .str x, .str y => if small (x.length + y.length) then some (.str (x ++ y)) else none
  | _, _ => none
noncomputable def rAddD (K : Fg) : R2 := fun x y H Q => ((rI0 fun i j => .int (i + j)) x y H Q ∨ rCatA K x y H Q) ∨ rCatR x y H Q ∨ (∃ i j, x = .str i ∧ y = .str j ∧ i.length + j.length ≤ sizeLine ∧ Q (.str (i ++ j)) H)
theorem op_addD : OpR X (binaryOp .Add) (rAddD X.K) := opr_or (opr_or op_add op_catA) (opr_or op_catR op_add_str)
theorem small_iff {n : Nat} : small n = true ↔ n ≤ sizeLine := by unfold small; exact decide_eq_true_iff
theorem ok_addD : OpOk K (rAddD K) addD := by
  intro F H x y dx dy z Q s hx hy e k
  unfold addD at e
  split at e
  · cases e
    cases hx.int; cases hy.int
    exact .inl (.inl ⟨_, _, rfl, rfl, k _ F H (.refl s) (.int _)⟩)
  · rename_i xs ys
    split at e
    · rename_i hz
      cases e
      obtain ⟨a, vs, rfl, h1, h2, h3⟩ := hx.tup s
      obtain ⟨b, ws, rfl, h4, h5, h6⟩ := hy.tup s
      refine .inl (.inr ⟨a, b, vs, ws, rfl, rfl, h1, h4, by rw [dqAll_len h2, dqAll_len h5]; exact small_iff.mp hz, fun e0 => ?_, fun _ e0 => ?_, fun _ _ p np => ?_⟩)
      · subst e0
        cases h2
        exact k _ F H (.refl s) h6
      · subst e0
        cases h5
        rw [List.append_nil] at k
        exact k _ F H (.refl s) h3
      · exact k _ _ _ (.new _ s np) (.tup upd_same (dqAll_mono (same_upd (s.free np)) _ _ (dqAll_app h2 h5)))
    · cases e
  · rename_i xs ys
    split at e
    · rename_i hz
      cases e
      obtain ⟨a, vs, rfl, h1, h2⟩ := hx.list s
      obtain ⟨b, ws, rfl, h4, h5⟩ := hy.list s
      refine .inr (.inl ⟨a, b, vs, ws, rfl, rfl, h1, h4, by rw [dqAll_len h2, dqAll_len h5]; exact small_iff.mp hz, fun p np => ?_⟩)
      exact k _ _ _ (.new _ s np) (.lst (.inl upd_same) (dqAll_mono (same_upd (s.free np)) _ _ (dqAll_app h2 h5)))
    · cases e
  · split at e
    · rename_i hz
      cases e
      cases hx.str; cases hy.str
      exact .inr (.inr ⟨_, _, rfl, rfl, small_iff.mp hz, k _ F H (.refl s) (.str _)⟩)
    · cases e
  · cases e
noncomputable def subtD : PyData → PyData → Option PyData
  | .int i, .int j => some (.int (i - j))
  | _, _ => none
theorem ok_subtD : OpOk K (rI0 fun i j => .int (i - j)) subtD := by
  intro F H x y dx dy z Q s hx hy e k
  unfold subtD at e
  split at e
  · cases e
    cases hx.int; cases hy.int
    exact ⟨_, _, rfl, rfl, k _ F H (.refl s) (.int _)⟩
  · cases e
noncomputable def lim : Nat := 2 ^ 2000
noncomputable def mulD : PyData → PyData → Option PyData
  | .int i, .int j => if i.natAbs < lim ∧ j.natAbs < lim then some (.int (i * j)) else none
  | _, _ => none
theorem ok_mulD : OpOk K (rI CMulW fun i j => .int (i * j)) mulD := by
  intro F H x y dx dy z Q s hx hy e k
  unfold mulD at e
  split at e
  · split at e
    · rename_i h
      cases e
      cases hx.int; cases hy.int
      refine ⟨_, _, rfl, rfl, ?_, k _ F H (.refl s) (.int _)⟩
      exact wide_mul (a := 2000) (b := 2000) h.1 h.2 (by decide) (by decide) (by decide)
    · cases e
  · cases e
noncomputable def modD : PyData → PyData → Option PyData
  | .int i, .int j => if 0 < j then some (.int (i % j)) else none
  | _, _ => none
theorem ok_modD : OpOk K (rI (fun _ j => 0 < j) fun i j => .int (i % j)) modD := by
  intro F H x y dx dy z Q s hx hy e k
  unfold modD at e
  split at e
  · split at e
    · rename_i h
      cases e
      cases hx.int; cases hy.int
      exact ⟨_, _, rfl, rfl, h, k _ F H (.refl s) (.int _)⟩
    · cases e
  · cases e
noncomputable def fdivD : PyData → PyData → Option PyData
  | .int i, .int j => if 0 < j ∧ j.natAbs < lim then some (.int (i / j)) else none
  | _, _ => none
theorem ok_fdivD : OpOk K (rI CDivW fun i j => .int (i / j)) fdivD := by
  intro F H x y dx dy z Q s hx hy e k
  unfold fdivD at e
  split at e
  · split at e
    · rename_i h
      cases e
      cases hx.int; cases hy.int
      exact ⟨_, _, rfl, rfl, wide_div (b := 2000) h.1 h.2 (by decide) (by decide), k _ F H (.refl s) (.int _)⟩
    · cases e
  · cases e
noncomputable def powD : PyData → PyData → Option PyData
  | .int i, .int j => if 0 ≤ j ∧ j ≤ 1000 ∧ i.natAbs < 1000000 then some (.int (i ^ j.toNat)) else none
  | _, _ => none
theorem ok_powD : OpOk K (rI CPow fun i j => .int (i ^ j.toNat)) powD := by
  intro F H x y dx dy z Q s hx hy e k
  unfold powD at e
  split at e
  · split at e
    · rename_i h
      cases e
      cases hx.int; cases hy.int
      exact ⟨_, _, rfl, rfl, ⟨h.1, by omega, Nat.lt_trans h.2.2 (by decide)⟩, k _ F H (.refl s) (.int _)⟩
    · cases e
  · cases e
variable {fa fb fc : M Rv} {a b c : Expr} {pos : Pos}
theorem ve_add (ha : VE X T1 W a fa) (hb : VE X T2 W b fb) : VE X (T1 ++ T2) W (.BinOp a .Add b pos) (cBin addD fa fb) := ve_bin op_addD ok_addD ha hb
theorem ve_sub (ha : VE X T1 W a fa) (hb : VE X T2 W b fb) : VE X (T1 ++ T2) W (.BinOp a .Sub b pos) (cBin subtD fa fb) := ve_bin op_sub ok_subtD ha hb
theorem ve_mul (ha : VE X T1 W a fa) (hb : VE X T2 W b fb) : VE X (T1 ++ T2) W (.BinOp a .Mult b pos) (cBin mulD fa fb) := ve_bin op_mulW ok_mulD ha hb
theorem ve_mod (ha : VE X T1 W a fa) (hb : VE X T2 W b fb) : VE X (T1 ++ T2) W (.BinOp a .Mod b pos) (cBin modD fa fb) := ve_bin op_mod ok_modD ha hb
theorem ve_fdiv (ha : VE X T1 W a fa) (hb : VE X T2 W b fb) : VE X (T1 ++ T2) W (.BinOp a .FloorDiv b pos) (cBin fdivD fa fb) := ve_bin op_fdivW ok_fdivD ha hb
theorem ve_pow (ha : VE X T1 W a fa) (hb : VE X T2 W b fb) : VE X (T1 ++ T2) W (.BinOp a .Pow b pos) (cBin powD fa fb) := ve_bin op_pow ok_powD ha hb
noncomputable def cNeg (f : M Rv) : M Rv := bnd f fun x => fun ρ => match x with
  | .d (.int i) => some (.ok (.d (.int (-i))) ρ)
  | _ => none
noncomputable def icmp (p : Int → Int → Bool) : PyData → PyData → Option Bool
  | .int i, .int j => some (p i j)
  | _, _ => none
theorem ok_icmp {p : Int → Int → Bool} : OpOkD K (rI0 fun i j => .bl (p i j)) (icmp p) := by
  intro H x y dx dy z Q hx hy e k
  unfold icmp at e
  split at e
  · cases e
    cases hx; cases hy
    exact ⟨_, _, rfl, rfl, k⟩
  · cases e
noncomputable abbrev ltD := icmp fun i j => decide (i < j)
noncomputable abbrev leD := icmp fun i j => decide (i ≤ j)
noncomputable abbrev gtD := icmp fun i j => decide (j < i)
noncomputable abbrev geD := icmp fun i j => decide (j ≤ i)
noncomputable def eqD (d e : PyData) : Option Bool := if SeqAt.shaped d && SeqAt.shaped e then some (PyData.eqv d e) else none
noncomputable def neD (d e : PyData) : Option Bool := if SeqAt.shaped d && SeqAt.shaped e then some (!PyData.eqv d e) else none
theorem ok_eqD : OpOkD K (rEqD K) eqD := by
  intro H x y dx dy z Q hx hy e k
  unfold eqD at e
  split at e
  · rename_i h
    cases e
    rw [Bool.and_eq_true] at h
    exact ⟨dx, dy, dq_dp _ _ (SeqAt.canLay_of_shaped h.1) hx, dq_dp _ _ (SeqAt.canLay_of_shaped h.2) hy, h.1, h.2, k⟩
  · cases e
theorem ok_neD : OpOkD K (rNeD K) neD := by
  intro H x y dx dy z Q hx hy e k
  unfold neD at e
  split at e
  · rename_i h
    cases e
    rw [Bool.and_eq_true] at h
    exact ⟨dx, dy, dq_dp _ _ (SeqAt.canLay_of_shaped h.1) hx, dq_dp _ _ (SeqAt.canLay_of_shaped h.2) hy, h.1, h.2, k⟩
  · cases e
noncomputable def flatD : PyData → Bool
  | .none => true
  | .bool _ => true
  | .int _ => true
  | .str _ => true
  | _ => false
theorem flatD_ok {H : Hp} {v : V} {d : PyData} (h : Dq K H v d) (f : flatD d = true) : flatV v = true := by
  cases h <;> first | rfl | (exact absurd (show false = true from f) Bool.false_ne_true)
theorem eqV_ok {H : Hp} {v w : V} {d e : PyData} (h : Dq K H v d) (h' : Dq K H w e) (f : flatD d = true) (f' : flatD e = true) : eqV v w = PyData.eqv d e := by
  cases h <;> cases h' <;> first | (exact absurd (show false = true from f) Bool.false_ne_true) | (exact absurd (show false = true from f') Bool.false_ne_true) | rfl | simp [eqV, PyData.eqv]
theorem flat_all {H : Hp} : ∀ {vs : List V} {ds : List PyData}, DqAll K H vs ds → ds.all flatD = true → vs.all flatV = true
  | _, _, .nil, _ => rfl
  | _, _, .cons h t, f => by
    rw [List.all_cons, Bool.and_eq_true] at f ⊢
    exact ⟨flatD_ok h f.1, flat_all t f.2⟩
theorem inV_ok {H : Hp} {v : V} {d : PyData} (h : Dq K H v d) (f : flatD d = true) : ∀ {vs : List V} {ds : List PyData}, DqAll K H vs ds → ds.all flatD = true → inV v vs = ds.any fun z => PyData.eqv z d
  | _, _, .nil, _ => rfl
  | _, _, .cons h1 t, f1 => by
    rw [List.all_cons, Bool.and_eq_true] at f1
    have := inV_ok h f t f1.2
    unfold inV at this ⊢
    rw [List.any_cons, List.any_cons, this, eqV_ok h1 h f1.1 f]
noncomputable def inD (d c : PyData) : Option Bool := match c with
  | .list ds => if SeqAt.shaped d && SeqAt.shaped (.list ds) then some (ds.any fun z => PyData.eqv z d) else none
  | .tuple ds => if flatD d && ds.all flatD then some (ds.any fun z => PyData.eqv z d) else none
  | .str y => (match d with
    | .str x => some (!(Builtin.Str.occurrences y x 0 y.length 1).isEmpty)
    | _ => none)
  | _ => none
noncomputable def notInD (d c : PyData) : Option Bool := (inD d c).map (!·)
noncomputable def rInA (K : Fg) : R2 := fun x y H Q => (rInD K x y H Q ∨ rIn K false x y H Q) ∨ (∃ i j, x = .str i ∧ y = .str j ∧ Q (.bl (!(Builtin.Str.occurrences j i 0 j.length 1).isEmpty)) H)
noncomputable def rNotInA (K : Fg) : R2 := fun x y H Q => (rNotInD K x y H Q ∨ rIn K true x y H Q) ∨ (∃ i j, x = .str i ∧ y = .str j ∧ Q (.bl (!(!(Builtin.Str.occurrences j i 0 j.length 1).isEmpty))) H)
theorem op_inA (hu : X.A.units + 65 < cLine) : OpR X (compareOp .In) (rInA X.K) := opr_or (opr_or (op_inD hu) op_in_seq) op_in_str
theorem op_notInA (hu : X.A.units + 65 < cLine) : OpR X (compareOp .NotIn) (rNotInA X.K) := opr_or (opr_or (op_notInD hu) op_notIn_seq) op_notin_str
theorem ok_inD : OpOkD K (rInA K) inD := by
  intro H x y dx dy z Q hx hy e k
  unfold inD at e
  split at e
  · split at e
    · rename_i h
      cases e
      rw [Bool.and_eq_true] at h
      exact .inl (.inl ⟨dx, _, dq_dp _ _ (SeqAt.canLay_of_shaped h.1) hx, dq_dp _ _ (SeqAt.canLay_of_shaped h.2) hy, h.1, h.2, k⟩)
    · cases e
  · split at e
    · rename_i h
      cases e
      rw [Bool.and_eq_true] at h
      cases hy with
      | tups hs ha =>
        refine .inl (.inr ⟨_, _, rfl, .inr hs.sq, flatD_ok hx h.1, flat_all ha h.2, ?_⟩)
        simp only [Bool.false_eq_true, if_false]
        rw [inV_ok hx h.1 ha h.2]
        exact k
    · cases e
  · split at e
    · cases e
      cases hx; cases hy
      exact .inr ⟨_, _, rfl, rfl, k⟩
    · cases e
  · cases e
theorem ok_notInD : OpOkD K (rNotInA K) notInD := by
  intro H x y dx dy z Q hx hy e k
  unfold notInD at e
  cases q : inD dx dy with
  | none => rw [q] at e; cases e
  | some b =>
    rw [q] at e
    cases e
    unfold inD at q
    split at q
    · split at q
      · rename_i h
        cases q
        rw [Bool.and_eq_true] at h
        exact .inl (.inl ⟨dx, _, dq_dp _ _ (SeqAt.canLay_of_shaped h.1) hx, dq_dp _ _ (SeqAt.canLay_of_shaped h.2) hy, h.1, h.2, k⟩)
      · cases q
    · split at q
      · rename_i h
        cases q
        rw [Bool.and_eq_true] at h
        cases hy with
        | tups hs ha =>
          refine .inl (.inr ⟨_, _, rfl, .inr hs.sq, flatD_ok hx h.1, flat_all ha h.2, ?_⟩)
          simp only [if_true]
          rw [inV_ok hx h.1 ha h.2]
          exact k
      · cases q
    · split at q
      · cases q
        cases hx; cases hy
        exact .inr ⟨_, _, rfl, rfl, k⟩
      · cases q
    · cases q
noncomputable def isNon : PyData → Bool
  | .none => true
  | _ => false
noncomputable def isND (d e : PyData) : Option Bool := match e with
  | .none => some (isNon d)
  | _ => none
noncomputable def notND (d e : PyData) : Option Bool := (isND d e).map (!·)
theorem non_ok {H : Hp} {v : V} {d : PyData} (h : Dq K H v d) : decide (v = .non) = isNon d := by
  cases h <;> simp [isNon]
theorem ok_isND : OpOkD K (fun x y H Q => y = .non ∧ Q (.bl (decide (x = .non))) H) isND := by
  intro H x y dx dy z Q hx hy e k
  unfold isND at e
  split at e
  · cases e
    cases hy
    refine ⟨rfl, ?_⟩
    rw [non_ok hx]
    exact k
  · cases e
section
variable {a : Expr} {fa : M Rv} {pos p : Pos} {x : Str} {t : Addr} {ds : List PyData}
noncomputable def KTup (K : Fg) (t : Addr) (ds : List PyData) : Prop := ∃ vs, (∀ F : Hp, SqT K F t vs) ∧ ∀ F : Hp, DqAll K F vs ds
theorem tv_inK {σ : Sg} {H : Hp} {Q : Bool → Hp → Prop} {Q' : VK} (hQ : ∀ b H, Q b H → Q' (.bl b) H) (hk : KTup X.K t ds) (h : tVT X.K T W (cCmp inD fa (cD (.tuple ds))) σ H Q) : tOp (rIn X.K false) (tV X.K T W fa) (tC (.ref t)) σ H Q' := by
  obtain ⟨F, ρ, fp, o, E, e, P⟩ := h
  obtain ⟨vs, k1, k2⟩ := hk
  refine tv_bnd E e P (fun i hi => hi) fun x ρ1 v H1 F1 fp1 s1 r1 e1 P1 => ?_
  have e2 : binD inD x (.d (.tuple ds)) ρ1 = some o := e1
  unfold binD at e2
  split at e2
  · rename_i p q hp hq
    cases hq
    split at e2
    · rename_i z hz
      cases ok_inj e2
      have hx := der_ok s1.env r1 hp
      simp only [inD] at hz
      split at hz
      · rename_i hf
        rw [Bool.and_eq_true] at hf
        cases hz
        refine ⟨t, vs, rfl, .inr (k1 H1), flatD_ok hx hf.1, flat_all (k2 H1) hf.2, hQ _ _ ?_⟩
        simp only [Bool.false_eq_true, if_false]
        rw [inV_ok hx hf.1 (k2 H1) hf.2]
        exact P1 _ H1 F1 fp1 (.refl s1.env) rfl
      · cases hz
    · cases e2
  · cases e2
theorem tv_notInK {σ : Sg} {H : Hp} {Q : Bool → Hp → Prop} {Q' : VK} (hQ : ∀ b H, Q b H → Q' (.bl b) H) (hk : KTup X.K t ds) (h : tVT X.K T W (cCmp notInD fa (cD (.tuple ds))) σ H Q) : tOp (rIn X.K true) (tV X.K T W fa) (tC (.ref t)) σ H Q' := by
  obtain ⟨F, ρ, fp, o, E, e, P⟩ := h
  obtain ⟨vs, k1, k2⟩ := hk
  refine tv_bnd E e P (fun i hi => hi) fun x ρ1 v H1 F1 fp1 s1 r1 e1 P1 => ?_
  have e2 : binD notInD x (.d (.tuple ds)) ρ1 = some o := e1
  unfold binD at e2
  split at e2
  · rename_i p q hp hq
    cases hq
    split at e2
    · rename_i z hz
      cases ok_inj e2
      have hx := der_ok s1.env r1 hp
      simp only [notInD, inD] at hz
      split at hz
      · rename_i hf
        rw [Bool.and_eq_true] at hf
        cases hz
        refine ⟨t, vs, rfl, .inr (k1 H1), flatD_ok hx hf.1, flat_all (k2 H1) hf.2, hQ _ _ ?_⟩
        simp only [if_true]
        rw [inV_ok hx hf.1 (k2 H1) hf.2]
        exact P1 _ H1 F1 fp1 (.refl s1.env) rfl
      · cases hz
    · cases e2
  · cases e2
theorem vt_notInK (ha : VE X T W a fa) (hg : Gl X x) (hm : X.mg x = some (.ref t)) (hk : KTup X.K t ds) (hb : behindInMarks .NotIn (.Name x p) = false := by rfl) (hdb : (x == ("__debug__" : Str)) = false := by decide) :
    VT X T W (.Compare a [.NotIn] [.Name x p] pos) (cCmp notInD fa (cD (.tuple ds))) := pt_imp (pt_cmpR op_notIn_seq ha (pe_glob (v := .ref t) hg hm rfl hdb) hb) fun σ H Q h => tv_notInK (Q' := fun v H => ∃ b, v = .bl b ∧ Q b H) (fun b _ q => ⟨b, rfl, q⟩) hk h
theorem ve_inK (ha : VE X T W a fa) (hg : Gl X x) (hm : X.mg x = some (.ref t)) (hk : KTup X.K t ds) (hb : behindInMarks .In (.Name x p) = false := by rfl) (hdb : (x == ("__debug__" : Str)) = false := by decide) :
    VE X T W (.Compare a [.In] [.Name x p] pos) (cOf (cCmp inD fa (cD (.tuple ds)))) := pe_imp (pe_cmpR op_in_seq ha (pe_glob (v := .ref t) hg hm rfl hdb) hb) fun σ H Q h => tv_inK (fun b _ q => q) hk (of_cOf h)
end

noncomputable def subD : PyData → PyData → Option PyData
  | .list xs, .int i => atI xs i
  | .tuple xs, .int i => atI xs i
  | .str z, .int i => if small z.length then (atI z.cps.toList i).map fun c => .str ⟨#[c]⟩ else none
  | .dict kvs, .int i => (atI kvs i).map (·.1)
  | _, _ => none
theorem atI_map {α β : Type} {f : α → β} {xs : List α} {i : Int} : atI (xs.map f) i = (atI xs i).map f := by
  unfold atI
  rw [List.length_map]
  cases ixN xs.length i with
  | none => rfl
  | some j => simp
theorem atI_ok {F : Hp} {vs : List V} {ds : List PyData} {i : Int} {d : PyData} (h : DqAll K F vs ds) (e : atI ds i = some d) : ∃ v, atI vs i = some v ∧ Dq K F v d := by
  unfold atI at e ⊢
  rw [dqAll_len h]
  cases q : ixN ds.length i with
  | none => rw [q] at e; cases e
  | some j =>
    rw [q] at e
    exact dqAll_get h e
theorem ok_subD : OpOk K (rIx K) subD := by
  intro F H x y dx dy z Q s hx hy e k
  unfold subD at e
  split at e
  · obtain ⟨a, vs, rfl, h1, h2⟩ := hx.list s
    cases hy.int
    obtain ⟨v, e1, e2⟩ := atI_ok h2 e
    exact .inl ⟨a, vs, _, v, rfl, rfl, .inl h1, e1, k _ F H (.refl s) e2⟩
  · obtain ⟨a, vs, rfl, h1, h2, _⟩ := hx.tup s
    cases hy.int
    obtain ⟨v, e1, e2⟩ := atI_ok h2 e
    exact .inr (.inl ⟨a, vs, _, v, rfl, rfl, h1, e1, k _ F H (.refl s) e2⟩)
  · split at e
    · rename_i z' i hz
      cases hx.str; cases hy.int
      cases q : atI z'.cps.toList i with
      | none => rw [q] at e; cases e
      | some c =>
        rw [q] at e; cases e
        exact .inr (.inr ⟨_, _, c, rfl, rfl, small_iff.mp hz, q, k _ F H (.refl s) (.str _)⟩)
    · cases e
  · rename_i kvs i
    rcases hx with hx | ⟨_, _, _, _, z', _⟩
    · cases hx with
      | @scr a ns hs =>
        cases hy.int
        rw [atI_map] at e
        cases q : atI ns i with
        | none => rw [q] at e; cases e
        | some n =>
          rw [q] at e; cases e
          exact .inl ⟨a, _, i, .int n, rfl, rfl, s.seq hs, by rw [atI_map, q]; rfl, k _ F H (.refl s) (.int _)⟩
    · cases z'
  · cases e
theorem ve_ix (ha : VE X T1 W a fa) (hb : VE X T2 W b fb) (hs : PlainIx b := by intro _ _; rfl) : VE X (T1 ++ T2) W (.Subscript a b pos) (cBin subD fa fb) :=
  pe_imp (pe_ix ix_seq ha hb hs) fun σ H Q h => tv_bin ok_subD h
noncomputable def cutL {α : Type} (xs : List α) (lo hi : Option Int) : List α := (xs.drop (HT.sIx xs.length 0 lo)).take (HT.sIx xs.length xs.length hi - HT.sIx xs.length 0 lo)
theorem cut_ok {F : Hp} {vs : List V} {ds : List PyData} (h : DqAll K F vs ds) (lo hi : Option Int) : DqAll K F (cutV vs lo hi) (cutL ds lo hi) := by
  unfold cutV cutL
  rw [dqAll_len h]
  exact dqAll_take _ (dqAll_drop _ h)
noncomputable def cutD (d : PyData) (lo hi : Option Int) : Option PyData := match d with
  | .list xs => some (.list (cutL xs lo hi))
  | .tuple xs => some (.tuple (cutL xs lo hi))
  | .str z => if small z.length then some (.str (cutS z lo hi)) else none
  | _ => none
noncomputable def rSlD (K : Fg) : V → Option Int → Option Int → Hp → VK → Prop := fun x lo hi H Q => (rSlL K x lo hi H Q ∨ rSlA K x lo hi H Q) ∨ rSlS x lo hi H Q
theorem sl_D : SlR X (rSlD X.K) := SlR.or (SlR.or sl_list sl_tupA) sl_str
theorem ok_cutD {F H : Hp} {x : V} {dx z : PyData} {lo hi : Option Int} {Q : VK} (s : Same F H) (hx : DpS K F H x dx) (e : cutD dx lo hi = some z) (k : ∀ v F' H', Grow F H F' H' → Dq K F' v z → Q v H') : rSlD K x lo hi H Q := by
  unfold cutD at e
  split at e
  · cases e
    obtain ⟨a, vs, rfl, h1, h2⟩ := hx.list s
    refine .inl (.inl ⟨a, vs, rfl, .inl h1, fun p np => ?_⟩)
    exact k _ _ _ (.new _ s np) (.lst (.inl upd_same) (dqAll_mono (same_upd (s.free np)) _ _ (cut_ok h2 lo hi)))
  · cases e
    obtain ⟨a, vs, rfl, h1, h2, h3⟩ := hx.tup s
    refine .inl (.inr ⟨a, vs, rfl, h1, fun w => ?_, fun _ p np => ?_⟩)
    · rename_i xs
      have : cutL xs lo hi = xs := by
        unfold cutL
        rw [dqAll_len h2] at w
        rw [w.1, w.2]
        simp
      rw [this] at k
      exact k _ F H (.refl s) h3
    · exact k _ _ _ (.new _ s np) (.tup upd_same (dqAll_mono (same_upd (s.free np)) _ _ (cut_ok h2 lo hi)))
  · split at e
    · rename_i hz
      cases e
      cases hx.str
      exact .inr ⟨_, rfl, small_iff.mp hz, k _ F H (.refl s) (.str _)⟩
    · cases e
  · cases e
noncomputable def rlO (K : Fg) : Rl K (Option Int) (Option Int) := ⟨fun _ _ _ _ _ _ _ v r => v = r, fun _ h => h⟩
noncomputable def VO (X : Cx) (T : List Nat) (W : WV) (e : Option Expr) (f : M (Option Int)) : Prop := PO X e (fun σ H Q => TVg T W (rlO X.K) f σ H Q)
theorem po_imp {e : Option Expr} {t t' : TO} (h : PO X e t) (i : ∀ σ H Q, t' σ H Q → t σ H Q) : PO X e t' := ⟨fun pins s σ H Q I q => h.run pins s σ H Q I (i σ H Q q)⟩
noncomputable def oNone : M (Option Int) := ret none
noncomputable def oSome (f : M Rv) : M (Option Int) := bnd f fun x => fun ρ => match x with
  | .d (.int i) => some (.ok (some i) ρ)
  | _ => none
theorem vo_none : VO X [] W none oNone := po_imp po_none fun σ H Q ⟨F, ρ, fp, o, E, e, P⟩ => by
  cases ok_inj e
  exact P _ H F fp (.refl E) rfl
theorem vo_some (ha : VE X T W a fa) : VO X T W (some a) (oSome fa) := po_imp (po_some ha) fun σ H Q ⟨F, ρ, fp, o, E, e, P⟩ => by
  refine tv_bnd E e P (fun i hi => hi) fun x ρ1 v H1 F1 fp1 s1 r1 e1 P1 => ?_
  split at e1
  · cases ok_inj e1
    cases r1
    exact ⟨_, rfl, P1 _ H1 F1 fp1 (.refl s1.env) rfl⟩
  · cases e1
noncomputable def cut1 (x : Rv) (lo hi : Option Int) : M Rv := fun ρ => match derS ρ x with
  | some d => (match cutD d lo hi with
    | some z => some (.ok (.d z) ρ)
    | none => none)
  | none => none
noncomputable def cCut (f : M Rv) (fl fh : M (Option Int)) : M Rv := bnd f fun x => bnd fl fun lo => bnd fh fun hi => cut1 x lo hi
variable {fl fh : M (Option Int)} {lo hi : Option Expr} {p2 : Pos}
theorem ve_cut (ha : VE X T1 W a fa) (hl : VO X T2 W lo fl) (hh : VO X T3 W hi fh) : VE X (T1 ++ T2 ++ T3) W (.Subscript a (.Slice lo hi none p2) pos) (cCut fa fl fh) :=
  pe_imp (pe_slice sl_D ha hl hh) fun σ H Q ⟨F, ρ, fp, o, E, e, P⟩ => by
    refine tv_bnd E e P (fun i hi => List.mem_append_left _ (List.mem_append_left _ hi)) fun x ρ1 v H1 F1 fp1 s1 r1 e1 P1 => ?_
    refine tv_bnd s1.env e1 P1 (fun i hi => List.mem_append_left _ (List.mem_append_right _ hi)) fun l ρ2 l' H2 F2 fp2 s2 r2 e2 P2 => ?_
    refine tv_bnd s2.env e2 P2 (fun i hi => List.mem_append_right _ hi) fun u ρ3 u' H3 F3 fp3 s3 r3 e3 P3 => ?_
    have r2 : l' = l := r2
    have r3 : u' = u := r3
    subst r2 r3
    unfold cut1 at e3
    split at e3
    · rename_i d hd
      split at e3
      · rename_i z hz
        cases ok_inj e3
        exact ok_cutD s3.env.sub (derS_ok s3.env (RvOk.step s3 (RvOk.step s2 r1)) hd) hz fun v' F4 H4 gr dp => P3 v' H4 F4 fp3 (gr.step s3.env) dp
      · cases e3
    · cases e3

inductive DpSs (K : Fg) (F H : Hp) : List V → List PyData → Prop
  | nil : DpSs K F H [] []
  | cons {v vs d ds} : DpS K F H v d → DpSs K F H vs ds → DpSs K F H (v :: vs) (d :: ds)
noncomputable def derSs (ρ : Rho) : List Rv → Option (List PyData)
  | [] => some []
  | r :: rs => match derS ρ r, derSs ρ rs with
    | some d, some ds => some (d :: ds)
    | _, _ => none
theorem derSs_ok {F H : Hp} {σ : Sg} {ρ : Rho} {fp : FP} (E : EnvOk K F H σ ρ fp) : ∀ {vs : List V} {rs : List Rv} {ds : List PyData}, RvsOk K F σ ρ vs rs → derSs ρ rs = some ds → DpSs K F H vs ds
  | _, _, _, .nil, e => by simp only [derSs] at e; cases e; exact .nil
  | _, r :: rs, _, .cons h t, e => by
    simp only [derSs] at e
    split at e
    · rename_i d ds hd hds
      cases e
      exact .cons (derS_ok E h hd) (derSs_ok E t hds)
    · cases e
noncomputable def CallOk (K : Fg) (r : List V → Hp → VK → Prop) (g : List PyData → Option PyData) : Prop := ∀ F H vs ds z Q, Same F H → DpSs K F H vs ds → g ds = some z → (∀ v F' H', Grow F H F' H' → Dq K F' v z → Q v H') → r vs H Q
noncomputable def call1 (g : List PyData → Option PyData) (rs : List Rv) : M Rv := fun ρ => match derSs ρ rs with
  | some ds => (match g ds with
    | some z => some (.ok (.d z) ρ)
    | none => none)
  | none => none
noncomputable def cCall (g : List PyData → Option PyData) (fs : M (List Rv)) : M Rv := bnd fs (call1 g)
variable {g : List PyData → Option PyData} {fs : M (List Rv)} {rc : List V → Hp → VK → Prop} {es : List Expr} {e : Expr} {id Ty : String} {x : Str} {p : Pos}
theorem tv_call {σ : Sg} {H : Hp} {Q : VK} (hg : CallOk X.K rc g) (h : tV X.K T W (cCall g fs) σ H Q) : tCB rc (tVA X.K T W fs) σ H Q := by
  obtain ⟨F, ρ, fp, o, E, e, P⟩ := h
  refine tv_bnd E e P (fun i hi => hi) fun rs ρ1 vs H1 F1 fp1 s1 r1 e1 P1 => ?_
  unfold call1 at e1
  split at e1
  · rename_i ds hd
    split at e1
    · rename_i z hz
      cases ok_inj e1
      exact hg F1 H1 vs ds z Q s1.env.sub (derSs_ok s1.env r1 hd) hz fun v' F4 H4 gr dp => P1 v' H4 F4 fp1 (gr.step s1.env) dp
    · cases e1
  · cases e1
theorem ve_callB (hc : CallR X (.builtin id) rc) (hk : CallOk X.K rc g) (hg : Gl X x) (hm : X.mg x = none) (hv : bootBuiltins x = some (.builtin id)) (ha : VA X T W (e :: es) fs) (hn : x ≠ "__name__" := by decide) (hdb : (x == ("__debug__" : Str)) = false := by decide)
    (he : starEach (e :: es) X.env = (false, eval e X.env) :: starEach es X.env := by rfl) (hpl : (backTo pos (starEach es X.env)).any (·.1) = false := by rfl) : VE X T W (.Call (.Name x p) (e :: es) [] pos) (cCall g fs) :=
  pe_imp (pe_callB hc hg hm hv ha hn hdb he hpl) fun σ H Q h => tv_call hk h
theorem ve_callTy (hc : CallR X (.type Ty) rc) (hk : CallOk X.K rc g) (hg : Gl X x) (hm : X.mg x = none) (hv : bootBuiltins x = some (.type Ty)) (ha : VA X T W (e :: es) fs) (hn : x ≠ "__name__" := by decide) (hdb : (x == ("__debug__" : Str)) = false := by decide)
    (he : starEach (e :: es) X.env = (false, eval e X.env) :: starEach es X.env := by rfl) (hpl : (backTo pos (starEach es X.env)).any (·.1) = false := by rfl) : VE X T W (.Call (.Name x p) (e :: es) [] pos) (cCall g fs) :=
  pe_imp (pe_callTy hc hg hm hv ha hn hdb he hpl) fun σ H Q h => tv_call hk h
noncomputable def lenD : List PyData → Option PyData
  | [.list xs] => some (.int xs.length)
  | [.tuple xs] => some (.int xs.length)
  | [.str z] => if small z.length then some (.int z.length) else none
  | [.dict kvs] => some (.int kvs.length)
  | _ => none
theorem ok_lenD : CallOk K (fun xs H Q => ∃ x n, xs = [x] ∧ LenV K x H n ∧ Q (.int n) H) lenD := by
  intro F H vs ds z Q s h e k
  unfold lenD at e
  split at e
  · cases h with
    | cons h t =>
      cases t
      cases e
      obtain ⟨a, ws, rfl, h1, h2⟩ := h.list s
      exact ⟨_, ws.length, rfl, .inl ⟨ws, .inl h1, rfl⟩, k _ F H (.refl s) (by rw [dqAll_len h2]; exact .int _)⟩
  · cases h with
    | cons h t =>
      cases t
      cases e
      obtain ⟨a, ws, rfl, h1, h2, _⟩ := h.tup s
      exact ⟨_, ws.length, rfl, .inr ⟨ws, h1, rfl⟩, k _ F H (.refl s) (by rw [dqAll_len h2]; exact .int _)⟩
  · cases h with
    | cons h t =>
      cases t
      split at e
      · rename_i hz
        cases e
        cases h.str
        exact ⟨_, _, rfl, ⟨small_iff.mp hz, rfl⟩, k _ F H (.refl s) (.int _)⟩
      · cases e
  · cases h with
    | cons h t =>
      cases t
      cases e
      rcases h with h | ⟨_, _, _, _, z', _⟩
      · cases h with
        | @scr a ns hs => exact ⟨_, _, rfl, .inl ⟨_, s.seq hs, rfl⟩, k _ F H (.refl s) (by rw [List.length_map, List.length_map]; exact .int _)⟩
      · cases z'
  · cases e
noncomputable def absD : List PyData → Option PyData
  | [.int i] => some (.int (if i < 0 then -i else i))
  | _ => none
noncomputable def min2D : List PyData → Option PyData
  | [.int i, .int j] => some (.int (if j < i then j else i))
  | _ => none
noncomputable def max2D : List PyData → Option PyData
  | [.int i, .int j] => some (.int (if j > i then j else i))
  | _ => none
theorem ok_min2D : CallOk K (fun xs H Q => ∃ i j, xs = [.int i, .int j] ∧ Q (.int (if j < i then j else i)) H) min2D := by
  intro F H vs ds z Q s h e k
  unfold min2D at e
  split at e
  · cases h with
    | cons h t =>
      cases t with
      | cons h2 t =>
        cases t
        cases e
        cases h.int; cases h2.int
        exact ⟨_, _, rfl, k _ F H (.refl s) (.int _)⟩
  · cases e
noncomputable def intD : List PyData → Option PyData
  | [.int i] => some (.int i)
  | [.bool b] => some (.int (if b then 1 else 0))
  | _ => none
theorem ok_intD : CallOk K (fun xs H Q => (∃ i, xs = [.int i] ∧ Q (.int i) H) ∨ ∃ k, xs = [.bl k] ∧ Q (.int (if k then 1 else 0)) H) intD := by
  intro F H vs ds z Q s h e k
  unfold intD at e
  split at e
  · cases h with
    | cons h t =>
      cases t
      cases e
      cases h.int
      exact .inl ⟨_, rfl, k _ F H (.refl s) (.int _)⟩
  · cases h with
    | cons h t =>
      cases t
      cases e
      cases h.bl
      exact .inr ⟨_, rfl, k _ F H (.refl s) (.int _)⟩
  · cases e
noncomputable def tupleD : List PyData → Option PyData
  | [.list xs] => some (.tuple xs)
  | [.tuple xs] => some (.tuple xs)
  | _ => none
theorem ok_tupleD : CallOk K (fun xs H Q => ∃ p ys, xs = [.ref p] ∧ ((SqL K H p ys ∧ ∀ l, H l = none → Q (.ref l) (upd H l (.tup ys))) ∨ (SqT K H p ys ∧ Q (.ref p) H))) tupleD := by
  intro F H vs ds z Q s h e k
  unfold tupleD at e
  split at e
  · cases h with
    | cons h t =>
      cases t
      cases e
      obtain ⟨a, ws, rfl, h1, h2⟩ := h.list s
      exact ⟨a, ws, rfl, .inl ⟨.inl h1, fun l nl => k _ _ _ (.new _ s nl) (.tup upd_same (dqAll_mono (same_upd (s.free nl)) _ _ h2))⟩⟩
  · cases h with
    | cons h t =>
      cases t
      cases e
      obtain ⟨a, ws, rfl, h1, h2, h3⟩ := h.tup s
      exact ⟨a, ws, rfl, .inr ⟨h1, k _ F H (.refl s) h3⟩⟩
  · cases e
noncomputable def listD : List PyData → Option PyData
  | [.list xs] => some (.list xs)
  | [.tuple xs] => some (.list xs)
  | _ => none
noncomputable def tyD : PyData → String
  | .none => "NoneType"
  | .bool _ => "bool"
  | .int _ => "int"
  | .str _ => "str"
  | .list _ => "list"
  | .tuple _ => "tuple"
  | .dict _ => "dict"
theorem tyX_of {H : Hp} {v : V} {d : PyData} (h : Dq K H v d) (hd : ∀ kvs, d ≠ .dict kvs) : TyX K H v (.type (tyD d)) := by
  cases h with
  | non => exact .base .non
  | bl b => exact .base (.bl b)
  | int b => exact .base (.int b)
  | str b => exact .base (.str b)
  | lst hs _ =>
    rcases hs with hs | ⟨o, hs⟩
    · exact .base (.lst hs)
    · exact .base (.frz hs)
  | tups hs _ =>
    rcases hs with hs | ⟨_, o, its, n, h1, h2, _⟩
    · exact .base (.tup hs)
    · exact .kTuple h1 h2
  | scr _ => exact absurd rfl (hd _)
inductive BT where
  | int | bool | str | tuple | list
noncomputable def BT.nm : BT → String
  | .int => "int"
  | .bool => "bool"
  | .str => "str"
  | .tuple => "tuple"
  | .list => "list"
noncomputable def isiD (B : BT) (d : PyData) : Option Bool := match d with
  | .none => some false
  | .bool _ => some (match B with | .int => true | .bool => true | _ => false)
  | .int _ => some (match B with | .int => true | _ => false)
  | .str _ => some (match B with | .str => true | _ => false)
  | .list _ => some (match B with | .list => true | _ => false)
  | .tuple _ => some (match B with | .tuple => true | _ => false)
  | .dict _ => none
theorem isiD_ok {B : BT} {d : PyData} {b : Bool} (h : isiD B d = some b) : (∀ kvs, d ≠ .dict kvs) ∧ PySem.W.kitOne K (.type (tyD d)) (.type B.nm) = some b := by
  cases d
  case dict kvs => cases h
  all_goals
    refine ⟨(fun kvs z => nomatch z), ?_⟩
    cases B
    all_goals
      cases h
      simp only [tyD, BT.nm]
      exact kit_ty (by decide +kernel)
noncomputable def cIsi (B : BT) (f : M Rv) : M Rv := bnd f fun x => fun ρ => match der ρ x with
  | some d => (match isiD B d with
    | some b => some (.ok (.d (.bool b)) ρ)
    | none => none)
  | none => none
theorem ve_isi {B : BT} {y : Str} {p' : Pos} (ha : VE X T W a fa) (hg : Gl X "isinstance") (hm : X.mg "isinstance" = none) (hg' : Gl X y) (hm' : X.mg y = none) (hv' : bootBuiltins y = some (.type B.nm)) (hn' : y ≠ "__name__" := by decide) (hd' : (y == ("__debug__" : Str)) = false := by decide)
    (h1 : starEach [a, .Name y p'] X.env = (false, eval a X.env) :: starEach [.Name y p'] X.env := by rfl) (h2 : (backTo pos (starEach [.Name y p'] X.env)).any (·.1) = false := by rfl) (h3 : starEach [.Name y p'] X.env = (false, eval (.Name y p') X.env) :: starEach [] X.env := by rfl) :
    VE X T W (.Call (.Name "isinstance" p) [a, .Name y p'] [] pos) (cIsi B fa) :=
  pe_imp (pe_callB call_isi hg hm (by decide +kernel) (pa_cons ha (pa_cons (pe_bltn (v := .ty B.nm) hg' hm' hv' rfl hn' hd') pa_nil h3) h1) (by decide) (by decide) h1 h2) fun σ H Q ⟨F, ρ, fp, o, E, e, P⟩ => by
    refine tv_bnd E e P (fun i hi => hi) fun x ρ1 v H1 F1 fp1 s1 r1 e1 P1 => ?_
    split at e1
    · rename_i d hd
      split at e1
      · rename_i b hb
        cases ok_inj e1
        have q := der_ok s1.env r1 hd
        obtain ⟨hd1, hd2⟩ := isiD_ok (K := X.K) hb
        exact ⟨v, .ty B.nm, _, _, b, rfl, .ty B.nm, tyX_of q hd1, hd2, P1 _ H1 F1 fp1 (.refl s1.env) (.bl b)⟩
      · cases e1
    · cases e1
end
end VL

end

section
set_option Elab.async false
set_option linter.all false
set_option maxRecDepth 100000
namespace VL
open PySem PySem.Spec PyProof.Rows L2

inductive Out where
  | nx (ρ : Rho)
  | rt (t : Tr) (ρ : Rho)
  | bk (ρ : Rho)
  | ct (ρ : Rho)
  | ex (c : Str) (ρ : Rho)
noncomputable abbrev MS := Rho → Option Out
noncomputable def SPst (K : Fg) (W : WV) (F H : Hp) (σ : Sg) (ρ : Rho) (fp : FP) (D : Ends) : Out → Prop
  | .nx ρ' => ∀ σ' H' F' fp', Step K F H σ ρ fp F' H' σ' ρ' fp' → D.nx σ' H'
  | .bk ρ' => ∀ σ' H' F' fp', Step K F H σ ρ fp F' H' σ' ρ' fp' → D.bk σ' H'
  | .ct ρ' => ∀ σ' H' F' fp', Step K F H σ ρ fp F' H' σ' ρ' fp' → D.ct σ' H'
  | .rt t ρ' => ∀ v A σ' H' F' fp', Step K F H σ ρ fp F' H' σ' ρ' fp' → NewOk K H fp F' H' fp' v t A → D.rt v H'
  | .ex c ρ' => ∀ σ' H' F' fp', Step K F H σ ρ fp F' H' σ' ρ' fp' → W c σ' H'
theorem NewOk.back {K : Fg} {F H F1 H1 F2 H2 : Hp} {σ σ1 : Sg} {ρ ρ1 : Rho} {fp fp1 fp2 : FP} {v : V} {t : Tr} {A : List Addr} (s : Step K F H σ ρ fp F1 H1 σ1 ρ1 fp1) (h : NewOk K H1 fp1 F2 H2 fp2 v t A) : NewOk K H fp F2 H2 fp2 v t A :=
  ⟨h.ok, h.nd, fun b hb => (h.new b hb).elim (fun z => .inl (s.dom b z)) fun z => (s.own b z).symm, h.out⟩
theorem SPst.step {K : Fg} {W : WV} {F H F1 H1 : Hp} {σ σ1 : Sg} {ρ ρ1 : Rho} {fp fp1 : FP} {D : Ends} (s : Step K F H σ ρ fp F1 H1 σ1 ρ1 fp1) : ∀ {o : Out}, SPst K W F H σ ρ fp D o → SPst K W F1 H1 σ1 ρ1 fp1 D o
  | .nx _, h => fun σ' H' F' fp' e => h σ' H' F' fp' (s.trans e)
  | .bk _, h => fun σ' H' F' fp' e => h σ' H' F' fp' (s.trans e)
  | .ct _, h => fun σ' H' F' fp' e => h σ' H' F' fp' (s.trans e)
  | .rt _ _, h => fun v A σ' H' F' fp' e n => h v A σ' H' F' fp' (s.trans e) (n.back s)
  | .ex _ _, h => fun σ' H' F' fp' e => h σ' H' F' fp' (s.trans e)
noncomputable def tS (K : Fg) (W : WV) (g : MS) : TS := fun D σ H => ∃ F ρ fp o, EnvOk K F H σ ρ fp ∧ g ρ = some o ∧ SPst K W F H σ ρ fp D o
noncomputable def VS (X : Cx) (W : WV) (st : Stmt) (g : MS) : Prop := PS X st (tS X.K W g)
noncomputable def VSs (X : Cx) (W : WV) (st : List Stmt) (g : MS) : Prop := PSs X st (tS X.K W g)

section
variable {X : Cx} {T T1 T2 : List Nat} {W : WV} {K : Fg} {st : Stmt} {rest : List Stmt} {g h : MS} {fa : M Rv} {fn : M Tr} {e : Expr} {pos : Pos}
noncomputable def sNil : MS := fun ρ => some (.nx ρ)
noncomputable def sSeq (g h : MS) : MS := fun ρ => match g ρ with
  | some (.nx ρ1) => h ρ1
  | o => o
theorem vss_nil : VSs X W [] sNil := pss_imp pss_nil fun D σ H ⟨F, ρ, fp, o, E, e, P⟩ => by
  cases (Option.some.inj e)
  exact P σ H F fp (.refl E)
theorem vss_cons (h1 : VS X W st g) (h2 : VSs X W rest h) : VSs X W (st :: rest) (sSeq g h) := pss_imp (pss_cons h1 h2) fun D σ H ⟨F, ρ, fp, o, E, e, P⟩ => by
  unfold sSeq at e
  cases q : g ρ with
  | none => rw [q] at e; cases e
  | some r =>
    rw [q] at e
    cases r with
    | nx ρ1 => exact ⟨F, ρ, fp, _, E, q, fun σ' H' F' fp' s => ⟨F', ρ1, fp', o, s.env, e, P.step s⟩⟩
    | rt t ρ1 => cases e; exact ⟨F, ρ, fp, _, E, q, P⟩
    | bk ρ1 => cases e; exact ⟨F, ρ, fp, _, E, q, P⟩
    | ct ρ1 => cases e; exact ⟨F, ρ, fp, _, E, q, P⟩
    | ex c ρ1 => cases e; exact ⟨F, ρ, fp, _, E, q, P⟩
theorem vss_one (h1 : VS X W st g) : VSs X W [st] g := pss_one h1
noncomputable def sE {α : Type} (f : M α) (k : α → MS) : MS := fun ρ => match f ρ with
  | some (.ok a ρ1) => k a ρ1
  | some (.ex c ρ1) => some (.ex c ρ1)
  | none => none
theorem tv_st {α β : Type} {R : Rl K α β} {f : M α} {k : α → MS} {F H : Hp} {σ : Sg} {ρ : Rho} {fp : FP} {o : Out} {D : Ends} {Q1 : β → Hp → Prop} (E : EnvOk K F H σ ρ fp) (e : sE f k ρ = some o) (P : SPst K W F H σ ρ fp D o)
    (hk : ∀ a ρ1 b H1 F1 fp1, EStep K T F H σ ρ fp F1 H1 ρ1 fp1 → R.r H fp F1 H1 fp1 σ ρ1 b a → k a ρ1 = some o → SPst K W F1 H1 σ ρ1 fp1 D o → Q1 b H1) : TVg T W R f σ H Q1 := by
  unfold sE at e
  cases q : f ρ with
  | none => rw [q] at e; cases e
  | some r =>
    rw [q] at e
    cases r with
    | ok a ρ1 => exact ⟨F, ρ, fp, _, E, q, fun b H1 F1 fp1 st r => hk a ρ1 b H1 F1 fp1 st r e (P.step st.st)⟩
    | ex c ρ1 => cases e; exact ⟨F, ρ, fp, _, E, q, fun H1 F1 fp1 st => P σ H1 F1 fp1 st.st⟩
noncomputable def sRet (f : M Tr) : MS := sE f fun t => fun ρ => some (.rt t ρ)
theorem vs_ret (h : VN X T W e fn) : VS X W (.Return (some e) pos) (sRet fn) := ps_imp (ps_ret h) fun D σ H ⟨F, ρ, fp, o, E, e, P⟩ => by
  refine tv_st E e P fun t ρ1 v H1 F1 fp1 s1 r1 e1 _ => ?_
  cases (Option.some.inj e1)
  obtain ⟨A, n⟩ := r1
  exact P v A σ H1 F1 fp1 s1.st n
noncomputable def sRetN : MS := fun ρ => some (.rt (.dat .none) ρ)
noncomputable def setSl (ρ : Rho) (i : Nat) (s : Sl) : Option Rho := match ρ[i]? with
  | some (.own .pin _) => none
  | some (.own .lock _) => none
  | some (.own (.bor _) _) => none
  | some _ => some (ρ.set i s)
  | none => none
theorem setSl_some {ρ ρ' : Rho} {i : Nat} {s : Sl} (h : setSl ρ i s = some ρ') : ρ' = ρ.set i s ∧ i < ρ.length ∧ (∀ m t, ρ[i]? = some (.own m t) → m.pn = false) ∧ (∀ t, ρ[i]? ≠ some (.own .lock t)) := by
  unfold setSl at h
  cases q : ρ[i]? with
  | none => rw [q] at h; cases h
  | some s0 =>
    have hi := (List.getElem?_eq_some_iff.mp q).1
    rw [q] at h
    cases s0 with
    | no => cases h; exact ⟨rfl, hi, (fun m t z => nomatch z), (fun t z => nomatch z)⟩
    | al _ _ => cases h; exact ⟨rfl, hi, (fun m t z => nomatch z), (fun t z => nomatch z)⟩
    | val d => cases h; exact ⟨rfl, hi, (fun m t z => nomatch z), (fun t z => nomatch z)⟩
    | own m t0 =>
      cases m with
      | free => cases h; exact ⟨rfl, hi, (fun m t z => by cases z; rfl), (fun t z => nomatch z)⟩
      | pin => cases h
      | lock => cases h
      | bor _ => cases h
noncomputable def fset (fp : FP) (i : Nat) (A : List Addr) : FP := fun j => if j = i then A else fp j
theorem sg_set {σ : Sg} {i : Nat} {v : Option V} (h : i < σ.length) : sg (σ.set i v) i = v := by
  unfold sg
  rw [List.getElem?_set_self h]
  rfl
theorem sg_set_ne {σ : Sg} {i j : Nat} {v : Option V} (h : i ≠ j) : sg (σ.set i v) j = sg σ j := by
  unfold sg
  rw [List.getElem?_set_ne h]
noncomputable def isOwn : Sl → Bool
  | .own _ _ => true
  | _ => false
noncomputable def plainSl : Sl → Bool
  | .al _ _ => false
  | .own (.bor _) _ => false
  | _ => true
theorem set_env {F H : Hp} {σ : Sg} {ρ : Rho} {fp : FP} {i : Nat} {v : V} {s : Sl} {A : List Addr} (E : EnvOk K F H σ ρ fp) (hi : i < ρ.length) (hs : SlOk K F H (some v) A s) (hn : A.Nodup) (ho : ∀ b ∈ A, ¬ Owns fp b) (ha : isOwn s = false → A = []) (hp : plainSl s = true := by rfl) :
    EnvOk K F H (σ.set i (some v)) (ρ.set i s) (fset fp i A) := by
  have hσ : i < σ.length := by rw [E.len]; exact hi
  refine ⟨E.sub, by rw [List.length_set, List.length_set]; exact E.len, fun j u hu => ?_, fun j hj => ?_, fun j => ?_, fun j l b h1 h2 => ?_, E.tb, E.al' (fun j k p h => ?_) fun k p t h => ?_⟩
  rotate_left 4
  · by_cases hji : i = j
    · subst hji
      rw [List.getElem?_set_self hi] at h
      cases h
      cases hp
    · rw [List.getElem?_set_ne hji] at h
      exact ⟨h, sg_set_ne hji⟩
  · by_cases hji : i = k
    · subst hji
      rw [List.getElem?_set_self hi] at h
      cases h
      cases hp
    · rw [List.getElem?_set_ne hji] at h
      exact ⟨h, sg_set_ne hji, fun _ _ => rfl⟩
  · by_cases hji : i = j
    · subst hji
      rw [List.getElem?_set_self hi] at hu
      cases hu
      rw [sg_set hσ]
      unfold fset
      rw [if_pos rfl]
      exact hs
    · rw [List.getElem?_set_ne hji] at hu
      rw [sg_set_ne hji]
      unfold fset
      rw [if_neg (Ne.symm hji)]
      exact E.sl j u hu
  · unfold fset
    by_cases hji : j = i
    · rw [if_pos hji]
      subst hji
      apply ha
      cases s with
      | own m t => exact absurd (List.getElem?_set_self hi) (hj m t)
      | _ => rfl
    · rw [if_neg hji]
      refine E.nil j fun m t z => hj m t ?_
      rw [List.getElem?_set_ne (Ne.symm hji)]
      exact z
  · unfold fset
    split
    · exact hn
    · exact E.nd j
  · unfold fset at h1 h2
    split at h1
    · split at h2
      · omega
      · exact absurd ⟨l, h2⟩ (ho b h1)
    · split at h2
      · exact absurd ⟨j, h1⟩ (ho b h2)
      · exact E.ap j l b h1 h2
theorem Owns.fset {fp : FP} {i : Nat} {A : List Addr} {b : Addr} (h : Owns (fset fp i A) b) : b ∈ A ∨ Owns fp b := by
  obtain ⟨j, h⟩ := h
  unfold VL.fset at h
  split at h
  · exact .inl h
  · exact .inr ⟨j, h⟩
theorem set_step {F H F1 H1 : Hp} {σ : Sg} {ρ ρ1 ρ2 : Rho} {fp fp1 : FP} {i : Nat} {v : V} {s : Sl} {A : List Addr} (s1 : Step K F H σ ρ fp F1 H1 σ ρ1 fp1) (hset : setSl ρ1 i s = some ρ2) (hs : SlOk K F1 H1 (some v) A s) (hn : A.Nodup)
    (ho : ∀ b ∈ A, ¬ Owns fp1 b) (ha : isOwn s = false → A = []) (hw : ∀ b ∈ A, H b = none ∨ Owns fp b) (hp : plainSl s = true := by rfl) : Step K F H σ ρ fp F1 H1 (σ.set i (some v)) ρ2 (fset fp1 i A) := by
  obtain ⟨rfl, hi, np, nl⟩ := setSl_some hset
  refine ⟨set_env s1.env hi hs hn ho ha hp, s1.fr, s1.nf, s1.dom, s1.frame, fun b hb => ?_, fun j m t hj hm => ?_, fun j t hj => ?_⟩
  · rcases hb.fset with z | z
    · exact (hw b z).symm
    · exact s1.own b z
  · obtain ⟨e1, m', t', h1, k1⟩ := s1.pin j m t hj hm
    have hji : i ≠ j := fun z => by subst z; rw [np m' t' h1] at k1; cases k1
    exact ⟨by rw [sg_set_ne hji], m', t', by rw [List.getElem?_set_ne hji]; exact h1, k1⟩
  · obtain ⟨e1, h1, f1, g1⟩ := s1.lock j t hj
    have hji : i ≠ j := fun z => by subst z; exact nl t h1
    refine ⟨by rw [sg_set_ne hji], by rw [List.getElem?_set_ne hji]; exact h1, ?_, g1⟩
    unfold fset
    rw [if_neg (Ne.symm hji)]
    exact f1
noncomputable def putD (i : Nat) (d : PyData) : MS := fun ρ => (setSl ρ i (.val d)).map .nx
noncomputable def sSet (i : Nat) (f : M Rv) : MS := sE f fun x => match x with
  | .d d => putD i d
  | .o _ => fun _ => none
theorem put_val {F H F1 H1 : Hp} {σ : Sg} {ρ ρ1 ρ2 : Rho} {fp fp1 : FP} {i : Nat} {v : V} {d : PyData} (s1 : Step K F H σ ρ fp F1 H1 σ ρ1 fp1) (hset : setSl ρ1 i (.val d) = some ρ2) (hd : Dq K F1 v d) : Step K F H σ ρ fp F1 H1 (σ.set i (some v)) ρ2 (fset fp1 i []) :=
  set_step s1 hset ⟨v, rfl, hd⟩ List.nodup_nil (fun b hb => nomatch hb) (fun _ => rfl) (fun b hb => nomatch hb)
theorem map_some {α β : Type} {f : α → β} {o : Option α} {b : β} (h : o.map f = some b) : ∃ a, o = some a ∧ b = f a := by
  cases o with
  | none => cases h
  | some a => exact ⟨a, rfl, (Option.some.inj h).symm⟩
theorem vs_set {i : Nat} {x : Str} {pos' : Pos} (hN : X.N.Nodup) (he : VE X T W e fa) (hi : X.N[i]? = some x := by rfl) (hx : Loc X.env.scope x := by first | exact Or.inl rfl | exact Or.inr rfl) (hs : swapsWith e (some (.Name x pos')) pos.line X.env = pure false := by rfl)
    (hf : X.fn x = true ∨ X.env.scope.names.lookup x = some .local := by first | exact .inl rfl | exact .inr rfl | assumption) : VS X W (.Assign [.Name x pos'] e pos) (sSet i fa) :=
  ps_imp (ps_set hN hi hx he hs hf) fun D σ H ⟨F, ρ, fp, o, E, e, P⟩ => by
    refine tv_st E e P fun r ρ1 v H1 F1 fp1 s1 r1 e1 _ => ?_
    cases r with
    | o _ => cases e1
    | d d =>
      obtain ⟨ρ2, e2, rfl⟩ := map_some e1
      exact P _ H1 F1 _ (put_val s1.st e2 r1)
noncomputable def sSetN (i : Nat) (f : M Tr) : MS := sE f fun t => fun ρ => (setSl ρ i (.own .free t)).map .nx
theorem vs_setN {i : Nat} {x : Str} {pos' : Pos} (hN : X.N.Nodup) (he : VN X T W e fn) (hi : X.N[i]? = some x := by rfl) (hx : Loc X.env.scope x := by first | exact Or.inl rfl | exact Or.inr rfl) (hs : swapsWith e (some (.Name x pos')) pos.line X.env = pure false := by rfl)
    (hf : X.fn x = true ∨ X.env.scope.names.lookup x = some .local := by first | exact .inl rfl | exact .inr rfl | assumption) : VS X W (.Assign [.Name x pos'] e pos) (sSetN i fn) :=
  ps_imp (ps_set hN hi hx he hs hf) fun D σ H ⟨F, ρ, fp, o, E, e, P⟩ => by
    refine tv_st E e P fun t ρ1 v H1 F1 fp1 s1 ⟨A, n⟩ e1 _ => ?_
    obtain ⟨ρ2, e2, rfl⟩ := map_some e1
    exact P _ H1 F1 _ (set_step s1.st e2 ⟨v, rfl, n.ok⟩ n.nd n.out (fun z => nomatch z) n.new)
noncomputable abbrev MG := PyData → Rho → Option Rho
noncomputable def Off (vs : List Nat) (σ : Sg) (ρ : Rho) (fp : FP) (σ' : Sg) (ρ' : Rho) (fp' : FP) : Prop := σ'.length = σ.length ∧ ∀ (i : Nat), i ∉ vs → sg σ' i = sg σ i ∧ ρ'[i]? = ρ[i]? ∧ fp' i = fp i
theorem Off.refl {vs : List Nat} {σ : Sg} {ρ : Rho} {fp : FP} : Off vs σ ρ fp σ ρ fp := ⟨rfl, fun _ _ => ⟨rfl, rfl, rfl⟩⟩
theorem Off.trans {us vs : List Nat} {σ σ1 σ2 : Sg} {ρ ρ1 ρ2 : Rho} {fp fp1 fp2 : FP} (a : Off us σ ρ fp σ1 ρ1 fp1) (b : Off vs σ1 ρ1 fp1 σ2 ρ2 fp2) : Off (us ++ vs) σ ρ fp σ2 ρ2 fp2 :=
  ⟨b.1.trans a.1, fun i hi => by
    obtain ⟨a1, a2, a3⟩ := a.2 i fun z => hi (List.mem_append_left _ z)
    obtain ⟨b1, b2, b3⟩ := b.2 i fun z => hi (List.mem_append_right _ z)
    exact ⟨b1.trans a1, b2.trans a2, b3.trans a3⟩⟩
noncomputable def GOk (K : Fg) (g : TG) (ws : List Nat) (G : MG) : Prop := ∀ v σ H Q F ρ fp d ρ', EnvOk K F H σ ρ fp → Dq K F v d → G d ρ = some ρ' → (∀ σ' fp', Step K F H σ ρ fp F H σ' ρ' fp' → Off ws σ ρ fp σ' ρ' fp' → Q σ' H) → g v σ H Q
noncomputable def VG (X : Cx) (tg : Expr) (g : TG) (ws : List Nat) (G : MG) : Prop := PG X tg g ∧ GOk X.K g ws G
noncomputable def gN (i : Nat) : MG := fun d ρ => setSl ρ i (.val d)
theorem vg_name {i : Nat} {x : Str} (hN : X.N.Nodup) (hi : X.N[i]? = some x := by rfl) (hx : Loc X.env.scope x := by first | exact Or.inl rfl | exact Or.inr rfl) (hf : X.fn x = true ∨ X.env.scope.names.lookup x = some .local := by first | exact .inl rfl | exact .inr rfl | assumption) : VG X (.Name x pos) (gName i) [i] (gN i) :=
  ⟨pg_name hN hi hx hf, fun v σ H Q F ρ fp d ρ' E hd e k => k _ _ (put_val (.refl E) e hd) (by
    obtain ⟨rfl, h2, h3, h4⟩ := setSl_some e
    refine ⟨List.length_set, fun j hj => ?_⟩
    have hij : i ≠ j := fun z => hj (by simp [z])
    refine ⟨sg_set_ne hij, List.getElem?_set_ne hij, ?_⟩
    unfold fset
    rw [if_neg (Ne.symm hij)])⟩
noncomputable abbrev MGs := List PyData → Rho → Option Rho
noncomputable def VGs (X : Cx) (tgs : List Expr) (g : TGs) (ws : List Nat) (G : MGs) : Prop := PGs X tgs g ∧ ∀ vs σ H Q F ρ fp ds ρ', EnvOk X.K F H σ ρ fp → DqAll X.K F vs ds → G ds ρ = some ρ' → (∀ σ' fp', Step X.K F H σ ρ fp F H σ' ρ' fp' → Off ws σ ρ fp σ' ρ' fp' → Q σ' H) → g vs σ H Q
noncomputable def gsN : MGs := fun ds ρ => match ds with
  | [] => some ρ
  | _ => none
noncomputable def gsC (G : MG) (Gs : MGs) : MGs := fun ds ρ => match ds with
  | d :: r => (match G d ρ with
    | some ρ1 => Gs r ρ1
    | none => none)
  | [] => none
theorem vgs_nil : VGs X [] gNil [] gsN := ⟨pgs_nil, fun vs σ H Q F ρ fp ds ρ' E hd e k => by
  unfold gsN at e
  split at e
  · cases hd
    cases e
    exact ⟨rfl, k σ fp (.refl E) .refl⟩
  · cases e⟩
theorem vgs_cons {tg : Expr} {tgs : List Expr} {us vs : List Nat} {g : TG} {gs : TGs} {G : MG} {Gs : MGs} (h1 : VG X tg g us G) (h2 : VGs X tgs gs vs Gs) (hs : (assignEach (tg :: tgs) X.env).map (·.2) = assign tg X.env :: (assignEach tgs X.env).map (·.2) := by rfl) : VGs X (tg :: tgs) (gCons g gs) (us ++ vs) (gsC G Gs) := by
  obtain ⟨p1, q1⟩ := h1
  obtain ⟨p2, q2⟩ := h2
  refine ⟨pgs_cons p1 p2 hs, fun vs σ H Q F ρ fp ds ρ' E hd e k => ?_⟩
  unfold gsC at e
  split at e
  · cases hd with
    | cons hv hr =>
      split at e
      · rename_i ρ1 e1
        refine ⟨_, _, rfl, q1 _ σ H _ F ρ fp _ ρ1 E hv e1 fun σ1 fp1 s1 o1 => ?_⟩
        exact q2 _ σ1 H Q F ρ1 fp1 _ ρ' s1.env hr e fun σ' fp' s2 o2 => k σ' fp' (s1.trans s2) (o1.trans o2)
      · cases e
  · cases e
noncomputable def gT (n : Nat) (Gs : MGs) : MG := fun d ρ => match d with
  | .tuple ds => if ds.length = n then Gs ds ρ else none
  | _ => none
theorem vg_tup {es : List Expr} {k n : Nat} {vs : List Nat} {gs : TGs} {Gs : MGs} (hc : X.calm = true) (h : VGs X es gs vs Gs) (hn : (assignEach es X.env).length = n := by rfl) (hst : (assignEach es X.env).findIdx? (·.1) = none := by rfl) : VG X (.Tuple es k pos) (gTup X.K n gs) vs (gT n Gs) := by
  obtain ⟨p1, q1⟩ := h
  refine ⟨pg_tup hc p1 hn hst, fun v σ H Q F ρ fp d ρ' E hd e k => ?_⟩
  unfold gT at e
  split at e
  · split at e
    · rename_i hl
      cases hd with
      | tups hs ha => exact ⟨_, _, rfl, (hs.mono E.sub).sq, by rw [dqAll_len ha]; exact hl, q1 _ σ H Q F ρ fp _ ρ' E ha e k⟩
    · cases e
  · cases e
noncomputable def sAsg (G : MG) (f : M Rv) : MS := sE f fun x => fun ρ => match x with
  | .d d => (G d ρ).map .nx
  | .o _ => none
theorem vs_asg {tg : Expr} {gt : TG} {ws : List Nat} {G : MG} (he : VE X T W e fa) (hg : VG X tg gt ws G) (hs : swapsWithSole [tg] e pos.line X.env = pure false := by rfl) (hw : swappedStores [tg] e X.env = pure none := by rfl)
    (h1 : (assignEach [tg] X.env).map (·.2) = [assign tg X.env] := by rfl) : VS X W (.Assign [tg] e pos) (sAsg G fa) := by
  obtain ⟨p1, q1⟩ := hg
  refine ps_imp (ps_asg he p1 hs hw h1) fun D σ H ⟨F, ρ, fp, o, E, e, P⟩ => ?_
  refine tv_st E e P fun r ρ1 v H1 F1 fp1 s1 r1 e1 P1 => ?_
  cases r with
  | o _ => cases e1
  | d d =>
    obtain ⟨ρ2, e2, rfl⟩ := map_some e1
    exact q1 v σ H1 _ F1 ρ1 fp1 d ρ2 s1.env r1 e2 fun σ' fp' s2 _ => P1 σ' H1 F1 fp' s2
variable {fc : M Bool} {c : Expr} {body els : List Stmt}
noncomputable def sIf (c : M Bool) (g h : MS) : MS := sE c fun b => if b then g else h
theorem vs_if (hc : VT X T W c fc) (ha : VSs X W body g) (hb : VSs X W els h) : VS X W (.If c body els pos) (sIf fc g h) := ps_imp (ps_if hc ha hb) fun D σ H ⟨F, ρ, fp, o, E, e, P⟩ => by
  refine tv_st E e P fun x ρ1 v H1 F1 fp1 s1 r1 e1 P1 => ?_
  have r1 : v = x := r1
  subst r1
  cases v with
  | true =>
    rw [if_pos rfl] at e1 ⊢
    exact ⟨F1, ρ1, fp1, o, s1.env, e1, P1⟩
  | false =>
    rw [if_neg Bool.false_ne_true] at e1 ⊢
    exact ⟨F1, ρ1, fp1, o, s1.env, e1, P1⟩
noncomputable def sBk : MS := fun ρ => some (.bk ρ)
noncomputable def sCt : MS := fun ρ => some (.ct ρ)
noncomputable def sDrop (f : M Rv) : MS := sE f fun _ => sNil
noncomputable def VI (X : Cx) (T : List Nat) (W : WV) (tg iter : Expr) (f : M (List PyData)) : Prop := ∃ wi, PI X tg iter wi ∧ ∀ σ H R F ρ fp o, EnvOk X.K F H σ ρ fp → f ρ = some o →
  (match o with
   | Er.ok xs ρ' => ∀ J G Y H1 F1 fp1, EStep X.K T F H σ ρ fp F1 H1 ρ' fp1 → Walk J xs.length G Y → (∀ F2 H2, Same F1 F2 → Same F2 H2 → G H2) →
      (∀ i F2 H2 x H3, i < xs.length → Same F1 F2 → Same F2 H2 → Y i H2 x H3 → ∃ F3 d, xs[i]? = some d ∧ Grow F2 H2 F3 H3 ∧ Dq X.K F3 x d) → R J H1
   | Er.ex c ρ' => ∀ H1 F1 fp1, EStep X.K T F H σ ρ fp F1 H1 ρ' fp1 → W c σ H1) → wi σ H R
theorem pi_or {tg iter : Expr} {w w' : TI} (h : PI X tg iter w) (h' : PI X tg iter w') : PI X tg iter (fun σ H R => w σ H R ∨ w' σ H R) := ⟨fun pins s σ H R I q => q.elim (h.run pins s σ H R I) (h'.run pins s σ H R I)⟩
noncomputable def itemsOf : PyData → Option (List PyData)
  | .list xs => some xs
  | .tuple xs => some xs
  | _ => none
noncomputable def iSeq (f : M Rv) : M (List PyData) := bnd f fun x => fun ρ => match x with
  | .d d => (match itemsOf d with
    | some xs => some (.ok xs ρ)
    | none => none)
  | .o _ => none
theorem vi_seq {tg : Expr} (he : VE X T W e fa) : VI X T W tg e (iSeq fa) := by
  refine ⟨_, pi_or (pi_list he) (pi_tup he), fun σ H R F ρ fp o E q P => ?_⟩
  unfold iSeq bnd at q
  cases hf : fa ρ with
  | none => rw [hf] at q; cases q
  | some r =>
    rw [hf] at q
    cases r with
    | ex c ρ1 => cases q; exact .inl ⟨F, ρ, fp, _, E, hf, fun H1 F1 fp1 s1 => P H1 F1 fp1 s1⟩
    | ok x ρ1 =>
      cases x with
      | o i => cases q
      | d d =>
        simp only at q
        split at q
        · rename_i xs hx
          cases q
          unfold itemsOf at hx
          split at hx
          · cases hx
            refine .inl ⟨F, ρ, fp, _, E, hf, fun v H1 F1 fp1 s1 r1 => ?_⟩
            cases r1 with
            | @lst a0 vs0 _ hs ha =>
              have w0 := walk_list (K := X.K) (a := a0) (xs := vs0)
              rw [dqAll_len ha] at w0
              refine ⟨_, rfl, ⟨_, .inl (rd_mono s1.env.sub hs)⟩, P _ _ _ H1 F1 fp1 s1 w0 (fun F2 H2 a b => .inl (rd_mono (a.trans b) hs)) fun i F2 H2 x H3 hi a b y => ?_⟩
              obtain ⟨rfl, hy⟩ := y
              obtain ⟨v, hv, dv⟩ := dqAll_get ha (List.getElem?_eq_getElem hi)
              rw [hv] at hy; cases hy
              exact ⟨F2, _, List.getElem?_eq_getElem hi, .refl b, dq_mono a _ _ dv⟩
          · cases hx
            refine .inr ⟨F, ρ, fp, _, E, hf, fun v H1 F1 fp1 s1 r1 => ?_⟩
            cases r1 with
            | @tups a0 vs0 _ hs ha =>
              have w0 := walk_tup (K := X.K) (a := a0) (xs := vs0)
              rw [dqAll_len ha] at w0
              refine ⟨_, rfl, ⟨_, (hs.mono s1.env.sub).sq⟩, P _ _ _ H1 F1 fp1 s1 w0 (fun F2 H2 a b => (hs.mono (a.trans b)).sq) fun i F2 H2 x H3 hi a b y => ?_⟩
              obtain ⟨rfl, hy⟩ := y
              obtain ⟨v, hv, dv⟩ := dqAll_get ha (List.getElem?_eq_getElem hi)
              rw [hv] at hy; cases hy
              exact ⟨F2, _, List.getElem?_eq_getElem hi, .refl b, dq_mono a _ _ dv⟩
          · cases hx
        · cases q
noncomputable def rangeD (lo : Int) (n : Nat) : List PyData := (List.range n).map fun i => .int (lo + (i : Nat))
noncomputable def iRange1 (f : M (List Rv)) : M (List PyData) := bnd f fun rs => fun ρ => match rs with
  | [.d (.int j)] => if -(2 ^ 62) ≤ j ∧ j < 2 ^ 62 then some (.ok (rangeD 0 j.toNat) ρ) else none
  | _ => none
theorem rangeD_len (lo : Int) (n : Nat) : (rangeD lo n).length = n := by unfold rangeD; simp
theorem rangeD_get {lo : Int} {n i : Nat} (h : i < n) : (rangeD lo n)[i]? = some (.int (lo + (i : Nat))) := by
  unfold rangeD
  rw [List.getElem?_map, List.getElem?_range h]
  rfl
theorem vi_range1 {tg a : Expr} {fs : M (List Rv)} {p : Pos} (hg : Gl X "range") (hm : X.mg "range" = none) (ha : VA X T W [a] fs) (hs : starEach [a] X.env = [(false, eval a X.env)] := by rfl) : VI X T W tg (.Call (.Name "range" p) [a] [] pos) (iRange1 fs) := by
  refine ⟨_, pi_range1 hg hm ha hs, fun σ H R F ρ fp o E q P => ?_⟩
  unfold iRange1 bnd at q
  cases hf : fs ρ with
  | none => rw [hf] at q; cases q
  | some r =>
    rw [hf] at q
    cases r with
    | ex c ρ1 => cases q; exact ⟨F, ρ, fp, _, E, hf, fun H1 F1 fp1 s1 => P H1 F1 fp1 s1⟩
    | ok rs ρ1 =>
      refine ⟨F, ρ, fp, _, E, hf, fun vs H1 F1 fp1 s1 r1 => ?_⟩
      simp only at q
      split at q
      · split at q
        · rename_i j hj
          cases q
          cases r1 with
          | cons h t =>
            cases t
            cases h
            refine ⟨j, rfl, hj.1, hj.2, P _ _ _ H1 F1 fp1 s1 (by rw [rangeD_len]; exact walk_range) (fun _ _ _ _ => trivial) fun i F2 H2 x H3 hi a b y => ?_⟩
            obtain ⟨rfl, rfl⟩ := y
            rw [rangeD_len] at hi
            exact ⟨F2, _, rangeD_get hi, .refl b, .int _⟩
        · cases q
      · cases q
noncomputable def enumD (xs : List PyData) : List PyData := xs.zipIdx.map fun p => .tuple [.int (p.2 : Nat), p.1]
noncomputable def loopF (G : MG) (body : MS) : List PyData → MS
  | [], ρ => some (.nx ρ)
  | x :: xs, ρ => match G x ρ with
    | none => none
    | some ρ1 => match body ρ1 with
      | some (.nx ρ2) => loopF G body xs ρ2
      | some (.ct ρ2) => loopF G body xs ρ2
      | some (.bk ρ2) => some (.nx ρ2)
      | o => o
noncomputable def sFor (fi : M (List PyData)) (G : MG) (body : MS) : MS := sE fi fun xs => loopF G body xs
theorem vs_for {tg iter : Expr} {gt : TG} {ws : List Nat} {fi : M (List PyData)} {G : MG} (hp : PassesOwn (model X.prog X.w) X.A X.env X.xe) (hc : X.calm = true) (hi : VI X T W tg iter fi) (hg : VG X tg gt ws G) (hb : VSs X W body g)
    (hs : ∀ x, foldedSetIterable iter X.env x = pure x := by intro _; rfl) : VS X W (.For tg iter body [] pos) (sFor fi G g) := by
  obtain ⟨wi, p1, q1⟩ := hi
  obtain ⟨p2, q2⟩ := hg
  refine ps_imp (ps_for hp hc p1 p2 hb hs) fun D σ H ⟨F, ρ, fp, o, E, e, P⟩ => ?_
  unfold sFor sE at e
  cases hf : fi ρ with
  | none => rw [hf] at e; cases e
  | some r =>
    rw [hf] at e
    cases r with
    | ex c ρ1 => cases e; exact q1 σ H _ F ρ fp _ E hf fun H1 F1 fp1 s1 => P σ H1 F1 fp1 s1.st
    | ok xs ρ1 =>
      refine q1 σ H _ F ρ fp _ E hf fun J Gw Y H1 F1 fp1 s1 w hG hY => ?_
      have P1 := P.step s1.st
      refine for_it w (fun i σ' H' => ∃ F' ρ' fp', Step X.K F1 H1 σ ρ1 fp1 F' H' σ' ρ' fp' ∧ loopF G g (xs.drop i) ρ' = some o) ⟨F1, ρ1, fp1, .refl s1.env, by rw [List.drop_zero]; exact e⟩
        (fun i σ' H' _ ⟨F', ρ', fp', s2, _⟩ => hG F' H' s2.fr s2.env.sub) (fun i x σ' H' H3 hi ⟨F', ρ', fp', s2, e2⟩ y => ?_) fun σ' H' ⟨F', ρ', fp', s2, e2⟩ => ?_
      · obtain ⟨F3, d, hd, g3, dx⟩ := hY i F' H' x H3 hi s2.fr s2.env.sub y
        have hdrop : xs.drop i = d :: xs.drop (i + 1) := by
          obtain ⟨hi', hd'⟩ := List.getElem?_eq_some_iff.mp hd
          rw [List.drop_eq_getElem_cons hi', hd']
        rw [hdrop] at e2
        unfold loopF at e2
        have s3 : Step X.K F1 H1 σ ρ1 fp1 F3 H3 σ' ρ' fp' := s2.trans (g3.step (T := []) s2.env).st
        split at e2
        · cases e2
        · rename_i ρ4 h4
          refine q2 x σ' H3 _ F3 ρ' fp' d ρ4 s3.env dx h4 fun σ4 fp4 s4 _ => ?_
          have s5 := s3.trans s4
          split at e2
          · rename_i ρ5 h5
            exact ⟨F3, ρ4, fp4, _, s4.env, h5, fun σ6 H6 F6 fp6 s6 => ⟨F6, ρ5, fp6, s5.trans s6, e2⟩⟩
          · rename_i ρ5 h5
            exact ⟨F3, ρ4, fp4, _, s4.env, h5, fun σ6 H6 F6 fp6 s6 => ⟨F6, ρ5, fp6, s5.trans s6, e2⟩⟩
          · rename_i ρ5 h5
            cases e2
            exact ⟨F3, ρ4, fp4, _, s4.env, h5, fun σ6 H6 F6 fp6 s6 => P1 σ6 H6 F6 fp6 (s5.trans s6)⟩
          · rename_i h1' h2' h3'
            refine ⟨F3, ρ4, fp4, _, s4.env, e2, ?_⟩
            cases o with
            | nx ρ5 => exact absurd e2 (h1' ρ5)
            | ct ρ5 => exact absurd e2 (h2' ρ5)
            | bk ρ5 => exact absurd e2 (h3' ρ5)
            | rt t ρ5 => exact fun v A σ6 H6 F6 fp6 s6 n => P1 v A σ6 H6 F6 fp6 (s5.trans s6) (n.back s5)
            | ex c ρ5 => exact fun σ6 H6 F6 fp6 s6 => P1 σ6 H6 F6 fp6 (s5.trans s6)
      · rw [List.drop_length] at e2
        cases (Option.some.inj e2)
        exact P1 σ' H' F' fp' s2
end
end VL

end

section
set_option Elab.async false
set_option linter.all false
set_option maxRecDepth 100000
namespace VL
open PySem PySem.Spec PyProof.Rows L2

noncomputable def pinS : Sl → Sl
  | .own .free t => .own .pin t
  | s => s
inductive FR where
  | ret (t : Tr)
  | exc (c : Str)
noncomputable abbrev Fn := List Sl → Option (FR × List Sl)
noncomputable def entry (n : Nat) (args : List Sl) : Rho := args.map pinS ++ List.replicate (n - args.length) .no
noncomputable def runF (n : Nat) (g : MS) : Fn := fun args => match g (entry n args) with
  | some (.nx ρ') => some (.ret (.dat .none), ρ'.take args.length)
  | some (.rt t ρ') => some (.ret t, ρ'.take args.length)
  | some (.ex c ρ') => some (.exc c, ρ'.take args.length)
  | _ => none
noncomputable def Md.unb : Md → Md
  | .bor _ => .pin
  | m => m
noncomputable def Md.arg : Md → Md
  | .bor _ => .lock
  | m => m
theorem Md.unb_pn : ∀ {m : Md}, m.pn = true → m.unb = .pin
  | .pin, _ => rfl
  | .bor _, _ => rfl
noncomputable def mrg1 (a : Sl) (o : Option Sl) : Sl := match a, o with
  | .own _ _, some (.own m t) => .own m.unb t
  | .own _ _, some o => o
  | a, _ => a
noncomputable def mrg : List Sl → List Sl → List Sl
  | [], _ => []
  | a :: as, os => mrg1 a os.head? :: mrg as os.tail
theorem mrg_get : ∀ {as os : List Sl} {i : Nat} {a : Sl}, as[i]? = some a → (mrg as os)[i]? = some (mrg1 a os[i]?)
  | [], _, _, _, h => by simp at h
  | b :: as, os, 0, a, h => by
    simp at h; subst h
    cases os <;> rfl
  | b :: as, os, i + 1, a, h => by
    have := mrg_get (as := as) (os := os.tail) (i := i) (a := a) (by simpa using h)
    show (mrg as os.tail)[i]? = _
    rw [this]
    cases os <;> simp
theorem mrg_len : ∀ {as os : List Sl}, (mrg as os).length = as.length
  | [], _ => rfl
  | _ :: as, os => by simp [mrg, mrg_len (as := as)]
noncomputable abbrev WX0 := Str → XK → Hp → Prop
noncomputable def FPst (K : Fg) (Wx : WX0) (F H : Hp) (vs : List V) (args : List Sl) (fp : FP) (outs : List Sl) (Q : VK) (E : XK) : FR → Prop
  | .ret t => ∀ v A H' F' fp', Step K F H (vs.map some) args fp F' H' (vs.map some) (mrg args outs) fp' → NewOk K H fp F' H' fp' v t A → Q v H'
  | .exc c => ∀ H' F' fp', Step K F H (vs.map some) args fp F' H' (vs.map some) (mrg args outs) fp' → Wx c E H'
noncomputable def spV (K : Fg) (Wx : WX0) (m : Nat) (f : Fn) : Sp := fun vs H Q E => vs.length = m ∧ ∃ F args fp r outs, EnvOk K F H (vs.map some) args fp ∧ f args = some (r, outs) ∧ FPst K Wx F H vs args fp outs Q E r
section
variable {K : Fg}
theorem slOk_pin {F H : Hp} {v : Option V} {A : List Addr} : ∀ {s : Sl}, SlOk K F H v A s → SlOk K F H v A (pinS s)
  | .no, h => h
  | .val _, h => h
  | .own .free _, h => h
  | .own .pin _, h => h
  | .own .lock _, h => h
  | .own (.bor _) _, h => h
  | .al _ _, h => h
theorem entry_env {F H : Hp} {vs : List V} {args : List Sl} {fp : FP} {n : Nat} (E : EnvOk K F H (vs.map some) args fp) : EnvOk K F H (vs.map some ++ List.replicate (n - vs.length) none) (entry n args) fp := by
  have hl : vs.length = args.length := by have := E.len; rwa [List.length_map] at this
  have sgE : ∀ i, i < args.length → sg (vs.map some ++ List.replicate (n - vs.length) none) i = sg (vs.map some) i := fun i hi => by
    unfold sg
    rw [List.getElem?_append_left (by simpa [hl] using hi)]
  have back : ∀ (i : Nat) s, (entry n args)[i]? = some s → s ≠ .no → ∃ a, args[i]? = some a ∧ s = pinS a := fun i s h hs => by
    unfold entry at h
    by_cases hi : i < args.length
    · rw [List.getElem?_append_left (by simpa using hi), List.getElem?_map, List.getElem?_eq_getElem hi] at h
      cases h
      exact ⟨_, List.getElem?_eq_getElem hi, rfl⟩
    · rw [List.getElem?_append_right (by simpa using hi), List.getElem?_replicate] at h
      split at h
      · cases h; exact absurd rfl hs
      · cases h
  refine ⟨E.sub, by unfold entry; simp [hl], fun i s h => ?_, fun i h => ?_, E.nd, E.ap, E.tb, E.al' (fun j k p h => ?_) fun k p t h => ?_⟩
  rotate_left 2
  · obtain ⟨a, h1, h2⟩ := back j _ h (fun z => nomatch z)
    have e : a = .al k p := by
      cases a with
      | al _ _ => exact h2.symm
      | own m t => cases m <;> cases h2
      | _ => cases h2
    subst e
    exact ⟨h1, sgE j (List.getElem?_eq_some_iff.mp h1).1⟩
  · obtain ⟨a, h1, h2⟩ := back k _ h (fun z => nomatch z)
    have e : a = .own (.bor p) t := by
      cases a with
      | own m t => cases m <;> cases h2; rfl
      | _ => cases h2
    subst e
    exact ⟨h1, sgE k (List.getElem?_eq_some_iff.mp h1).1, fun _ _ => rfl⟩
  · unfold entry at h
    by_cases hi : i < args.length
    · rw [List.getElem?_append_left (by simpa using hi), List.getElem?_map, List.getElem?_eq_getElem hi] at h
      cases h
      refine slOk_pin ?_
      have q := E.sl i _ (List.getElem?_eq_getElem hi)
      have e : sg (vs.map some ++ List.replicate (n - vs.length) none) i = sg (vs.map some) i := by
        unfold sg
        rw [List.getElem?_append_left (by simpa [hl] using hi)]
      rw [e]
      exact q
    · rw [List.getElem?_append_right (by simpa using hi), List.getElem?_replicate] at h
      split at h
      · cases h; trivial
      · cases h
  · refine E.nil i fun m t z => ?_
    have hi : i < args.length := (List.getElem?_eq_some_iff.mp z).1
    have q : (entry n args)[i]? = some (pinS (.own m t)) := by
      unfold entry
      rw [List.getElem?_append_left (by simpa using hi), List.getElem?_map, z]
      rfl
    cases m with
    | free => exact h _ _ q
    | pin => exact h _ _ q
    | lock => exact h _ _ q
    | bor _ => exact h _ _ q
noncomputable def isOwnAt (args : List Sl) (i : Nat) : Bool := match args[i]? with
  | some (.own _ _) => true
  | _ => false
theorem exit_step {F H F' H' : Hp} {vs : List V} {args : List Sl} {fp fp' : FP} {n : Nat} {σ' : Sg} {ρ' : Rho} (E : EnvOk K F H (vs.map some) args fp)
    (s : Step K F H (vs.map some ++ List.replicate (n - vs.length) none) (entry n args) fp F' H' σ' ρ' fp') :
    Step K F H (vs.map some) args fp F' H' (vs.map some) (mrg args (ρ'.take args.length)) (fun i => if isOwnAt args i then fp' i else []) := by
  have hl : vs.length = args.length := by have := E.len; rwa [List.length_map] at this
  have key : ∀ (i : Nat) m t, args[i]? = some (Sl.own m t) → ∃ m' t', (mrg args (ρ'.take args.length))[i]? = some (Sl.own m'.unb t') ∧ ρ'[i]? = some (Sl.own m' t') ∧ sg σ' i = sg (vs.map some) i ∧
      (m = .lock → m' = .lock ∧ t' = t ∧ fp' i = fp i ∧ ∀ b ∈ fp i, H' b = H b) ∧ (m.pn = true → m'.pn = true) := by
    intro i m t h
    have hi : i < args.length := (List.getElem?_eq_some_iff.mp h).1
    have e : sg (vs.map some ++ List.replicate (n - vs.length) none) i = sg (vs.map some) i := by
      unfold sg
      rw [List.getElem?_append_left (by simpa [hl] using hi)]
    have q : (entry n args)[i]? = some (pinS (.own m t)) := by
      unfold entry
      rw [List.getElem?_append_left (by simpa using hi), List.getElem?_map, h]
      rfl
    have tk : (ρ'.take args.length)[i]? = ρ'[i]? := List.getElem?_take_of_lt hi
    cases m with
    | free =>
      obtain ⟨a, m', t', b, k⟩ := s.pin i _ t q rfl
      refine ⟨m', t', by rw [mrg_get h, tk, b]; rfl, b, a.trans e, (fun z => nomatch z), (fun z => nomatch z)⟩
    | pin =>
      obtain ⟨a, m', t', b, k⟩ := s.pin i _ t q rfl
      refine ⟨m', t', by rw [mrg_get h, tk, b]; rfl, b, a.trans e, (fun z => nomatch z), (fun _ => k)⟩
    | bor p =>
      obtain ⟨a, m', t', b, k⟩ := s.pin i _ t q rfl
      refine ⟨m', t', by rw [mrg_get h, tk, b]; rfl, b, a.trans e, (fun z => nomatch z), (fun _ => k)⟩
    | lock =>
      obtain ⟨a, b, c, d⟩ := s.lock i t q
      refine ⟨.lock, t, by rw [mrg_get h, tk, b]; rfl, b, a.trans e, (fun _ => ⟨rfl, rfl, c, d⟩), (fun z => nomatch z)⟩
  have ow : ∀ {b}, Owns (fun i => if isOwnAt args i then fp' i else []) b → Owns fp' b := fun {b} ⟨i, h⟩ => by
    dsimp only at h
    split at h
    · exact ⟨i, h⟩
    · cases h
  refine ⟨⟨s.env.sub, by rw [mrg_len]; exact E.len, fun i u hu => ?_, fun i hi => ?_, fun i => ?_, fun i j b h1 h2 => ?_, s.env.tb, fun j i p t h1 h2 => ?_⟩, s.fr, s.nf, s.dom, s.frame, fun b hb => s.own b (ow hb), fun i m t h hm => ?_, fun i t h => ?_⟩
  rotate_left 4
  · exfalso
    cases ha : args[i]? with
    | none =>
      have := (List.getElem?_eq_some_iff.mp h2).1
      rw [mrg_len] at this
      rw [List.getElem?_eq_none_iff] at ha
      omega
    | some a =>
      cases a with
      | own m t0 =>
        obtain ⟨m', t', e1, _⟩ := key i m t0 ha
        rw [e1] at h2
        cases m' <;> cases h2
      | no => rw [mrg_get ha] at h2; cases h2
      | val d => rw [mrg_get ha] at h2; cases h2
      | al _ _ => rw [mrg_get ha] at h2; cases h2
  · obtain ⟨m', t', e1, _, _, _, e5⟩ := key i _ t h
    refine ⟨rfl, _, t', e1, ?_⟩
    rw [Md.unb_pn (e5 hm)]
    rfl
  · obtain ⟨m', t', e1, _, _, e4, _⟩ := key i _ t h
    obtain ⟨rfl, rfl, e5, e6⟩ := e4 rfl
    have hy : isOwnAt args i = true := by unfold isOwnAt; rw [h]
    refine ⟨rfl, e1, ?_, e6⟩
    simp only [hy, if_true]
    exact e5
  · have hi : i < args.length := by
      have := (List.getElem?_eq_some_iff.mp hu).1
      rwa [mrg_len] at this
    cases ha : args[i]? with
    | none => rw [List.getElem?_eq_none_iff] at ha; omega
    | some a =>
      cases a with
      | own m t =>
        obtain ⟨m', t', e1, e2, e3, _⟩ := key i m t ha
        rw [e1] at hu; cases hu
        have q := s.env.sl i _ e2
        rw [e3] at q
        have q : SlOk K F' H' (sg (vs.map some) i) (fp' i) (.own m'.unb t') := q
        have hy : isOwnAt args i = true := by unfold isOwnAt; rw [ha]
        simp only [hy, if_true]
        exact q
      | no =>
        rw [mrg_get ha] at hu
        cases hu
        trivial
      | al _ _ =>
        rw [mrg_get ha] at hu
        cases hu
        trivial
      | val d =>
        rw [mrg_get ha] at hu
        cases hu
        obtain ⟨v, hv, hd⟩ := E.sl i _ ha
        exact ⟨v, hv, dq_mono s.fr _ _ hd⟩
  · split
    · rename_i hy
      unfold isOwnAt at hy
      split at hy
      · rename_i m t ha
        obtain ⟨m', t', e1, _⟩ := key i m t ha
        exact absurd e1 (hi _ t')
      · cases hy
    · rfl
  · split
    · exact s.env.nd i
    · exact List.nodup_nil
  · split at h1
    · split at h2
      · exact s.env.ap i j b h1 h2
      · cases h2
    · cases h1
end
section
variable {P : Program} {w : World} {K : PySem.W.Frag} {mg : Str → Option Value} {base : Heap}
noncomputable abbrev W0 : WV := fun _ _ _ => False
noncomputable abbrev Wx0 : WX0 := fun _ _ _ => False
theorem run_ok {CX : CXT} {x qual : Str} {f : Addr} {N ps : List Str} {sc : Scope} {Wx : WX0} {g : MS} {cdv : Value} {A : Around} {outer : List Env} {s : Shared} {H : Hp} {vs : List V} {Q : VK} {E : XK} (h : spV K Wx ps.length (runF N.length g) vs H Q E) :
    tS K (fun c _ H' => Wx c E H') g { nx := fun _ H' => Q .non H', rt := Q } (start N vs) H := by
  obtain ⟨hl, F, args, fp, r, outs, E0, e, P0⟩ := h
  have hla : vs.length = args.length := by have := E0.len; rwa [List.length_map] at this
  have E1 := entry_env (n := N.length) E0
  unfold runF at e
  cases q : g (entry N.length args) with
  | none => rw [q] at e; cases e
  | some o =>
    rw [q] at e
    refine ⟨F, entry N.length args, fp, o, E1, q, ?_⟩
    cases o with
    | nx ρ' =>
      cases e
      intro σ' H' F' fp' st
      exact P0 .non [] H' F' _ (exit_step E0 st) ⟨.dat .non, List.nodup_nil, (fun b hb => nomatch hb), (fun b hb => nomatch hb)⟩
    | rt t ρ' =>
      cases e
      intro v A' σ' H' F' fp' st n
      refine P0 v A' H' F' _ (exit_step E0 st) ⟨n.ok, n.nd, n.new, fun b hb z => n.out b hb ?_⟩
      obtain ⟨i, h⟩ := z
      dsimp only at h
      split at h
      · exact ⟨i, h⟩
      · cases h
    | ex c ρ' =>
      cases e
      intro σ' H' F' fp' st
      exact P0 H' F' _ (exit_step E0 st)
    | bk ρ' => cases e
    | ct ρ' => cases e
theorem fn_ok {x qual : Str} {st : Stmt} {f : Addr} {fd : FuncData} {N ps : List Str} {k : Nat} {g : MS} (F : Fun K x qual st f fd) (S : FnScope N ps (defScope st))
    (hb : ∀ (cdv : Value) (A : Around) (outer : List Env) (s : Shared) (H : Hp) (E : XK), Room k (A.deeper (envOfC qual (defScope st) s.heap.objs.size f cdv)) → VSs (cxOf CX0 P w K mg base N qual (defScope st) f cdv A outer s H E).nox W0 (defBody st) g) :
    FnOk P w K mg base CX0 (k + 1) f fd ps (spV K Wx0 ps.length (runF N.length g)) :=
  F.ok S (fun vs H Q E h => h.1) fun cdv A outer s H vs Q E hr h => ⟨_, hb cdv A outer s H E hr, run_ok (CX := CX0) (x := x) (qual := qual) (f := f) (sc := defScope st) (cdv := cdv) (A := A) (outer := outer) (s := s) h⟩
end

noncomputable def argSl (ρ : Rho) : Rv → Option Sl
  | .d x => some (.val x)
  | .o i => match ρ[i]? with
    | some (.own m t) => some (.own m.arg t)
    | _ => none
noncomputable def argSls (ρ : Rho) : List Rv → Option (List Sl)
  | [] => some []
  | r :: rs => match argSl ρ r, argSls ρ rs with
    | some a, some as => some (a :: as)
    | _, _ => none
noncomputable def posOf : List Rv → Nat → Option Nat
  | [], _ => none
  | .o j :: rs, i => if j = i then some 0 else (posOf rs i).map (· + 1)
  | .d _ :: rs, i => (posOf rs i).map (· + 1)
noncomputable def oneEach : List Rv → Bool
  | [] => true
  | .o j :: rs => (posOf rs j).isNone && oneEach rs
  | .d _ :: rs => oneEach rs
noncomputable def allIn (Ts : List Nat) : List Rv → Bool
  | [] => true
  | .o j :: rs => Ts.contains j && allIn Ts rs
  | .d _ :: rs => allIn Ts rs
noncomputable def wb1 (s : Sl) (o : Option Sl) : Sl := match s, o with
  | .own m _, some (.own _ t) => .own m t
  | s, _ => s
noncomputable def wbGo (rs : List Rv) (os : List Sl) : Nat → Rho → Rho
  | _, [] => []
  | i, s :: ρ => (match posOf rs i with
    | some k => wb1 s os[k]?
    | none => s) :: wbGo rs os (i + 1) ρ
noncomputable def wb (ρ : Rho) (rs : List Rv) (os : List Sl) : Rho := wbGo rs os 0 ρ
theorem wbGo_get {rs : List Rv} {os : List Sl} : ∀ {ρ : Rho} {j i : Nat}, (wbGo rs os j ρ)[i]? = (ρ[i]?).map fun s => match posOf rs (j + i) with
    | some k => wb1 s os[k]?
    | none => s
  | [], j, i => by simp [wbGo]
  | s :: ρ, j, 0 => by simp [wbGo]
  | s :: ρ, j, i + 1 => by
    have := wbGo_get (rs := rs) (os := os) (ρ := ρ) (j := j + 1) (i := i)
    show (wbGo rs os (j + 1) ρ)[i]? = _
    rw [this, show j + 1 + i = j + (i + 1) by omega]
    simp
theorem wb_get {rs : List Rv} {os : List Sl} {ρ : Rho} {i : Nat} : (wb ρ rs os)[i]? = (ρ[i]?).map fun s => match posOf rs i with
    | some k => wb1 s os[k]?
    | none => s := by
  have := wbGo_get (rs := rs) (os := os) (ρ := ρ) (j := 0) (i := i)
  rw [Nat.zero_add] at this
  exact this
theorem wbGo_len {rs : List Rv} {os : List Sl} : ∀ {ρ : Rho} {j : Nat}, (wbGo rs os j ρ).length = ρ.length
  | [], _ => rfl
  | _ :: ρ, j => by simp [wbGo, wbGo_len (ρ := ρ)]
theorem posOf_get : ∀ {rs : List Rv} {i k : Nat}, posOf rs i = some k → rs[k]? = some (.o i)
  | [], _, _, h => by simp [posOf] at h
  | .o j :: rs, i, k, h => by
    simp only [posOf] at h
    split at h
    · rename_i e; cases h; subst e; rfl
    · obtain ⟨a, h1, rfl⟩ := map_some h
      simpa using posOf_get h1
  | .d _ :: rs, i, k, h => by
    simp only [posOf] at h
    obtain ⟨a, h1, rfl⟩ := map_some h
    simpa using posOf_get h1
theorem posOf_of : ∀ {rs : List Rv} {i k : Nat}, oneEach rs = true → rs[k]? = some (.o i) → posOf rs i = some k
  | [], _, _, _, h => by simp at h
  | .o j :: rs, i, 0, _, h => by
    simp at h; subst h
    simp [posOf]
  | .o j :: rs, i, k + 1, o, h => by
    simp only [oneEach, Bool.and_eq_true] at o
    have q := posOf_of (k := k) o.2 (by simpa using h)
    have hj : j ≠ i := fun e => by
      subst e
      rw [q] at o
      exact absurd o.1 (by simp)
    simp only [posOf, if_neg hj, q]
    rfl
  | .d _ :: rs, i, 0, _, h => by simp at h
  | .d _ :: rs, i, k + 1, o, h => by
    simp only [oneEach] at o
    have q := posOf_of (k := k) o (by simpa using h)
    simp only [posOf, q]
    rfl
theorem allIn_of {Ts : List Nat} : ∀ {rs : List Rv} {i k : Nat}, allIn Ts rs = true → rs[k]? = some (.o i) → i ∈ Ts
  | [], _, _, _, h => by simp at h
  | .o j :: rs, i, 0, a, h => by
    simp at h; subst h
    simp only [allIn, Bool.and_eq_true] at a
    exact List.contains_iff_mem.mp a.1
  | .o j :: rs, i, k + 1, a, h => by
    simp only [allIn, Bool.and_eq_true] at a
    exact allIn_of (k := k) a.2 (by simpa using h)
  | .d _ :: rs, i, 0, _, h => by simp at h
  | .d _ :: rs, i, k + 1, a, h => by
    simp only [allIn] at a
    exact allIn_of (k := k) a (by simpa using h)
theorem argSls_len {ρ : Rho} : ∀ {rs : List Rv} {as : List Sl}, argSls ρ rs = some as → as.length = rs.length
  | [], _, e => by simp only [argSls] at e; cases e; rfl
  | r :: rs, _, e => by
    simp only [argSls] at e
    split at e
    · rename_i a as h1 h2
      cases e
      simp [argSls_len h2]
    · cases e
theorem argSls_get {ρ : Rho} : ∀ {rs : List Rv} {as : List Sl} {k : Nat} {r : Rv}, argSls ρ rs = some as → rs[k]? = some r → ∃ a, as[k]? = some a ∧ argSl ρ r = some a
  | [], _, _, _, _, h => by simp at h
  | r0 :: rs, _, k, r, e, h => by
    simp only [argSls] at e
    split at e
    · rename_i a as h1 h2
      cases e
      cases k with
      | zero => simp at h; subst h; exact ⟨a, rfl, h1⟩
      | succ k =>
        obtain ⟨b, h3, h4⟩ := argSls_get (k := k) h2 (by simpa using h)
        exact ⟨b, by simpa using h3, h4⟩
    · cases e
theorem rvs_get {K : Fg} {F : Hp} {σ : Sg} {ρ : Rho} : ∀ {vs : List V} {rs : List Rv} {k : Nat} {r : Rv}, RvsOk K F σ ρ vs rs → rs[k]? = some r → ∃ v, vs[k]? = some v ∧ RvOk K F σ ρ v r
  | _, _, _, _, .nil, h => by simp at h
  | _, _, 0, _, .cons a _, h => by simp at h; subst h; exact ⟨_, rfl, a⟩
  | _, _, k + 1, _, .cons _ t, h => by
    obtain ⟨v, h1, h2⟩ := rvs_get (k := k) t (by simpa using h)
    exact ⟨v, by simpa using h1, h2⟩
theorem rvs_len {K : Fg} {F : Hp} {σ : Sg} {ρ : Rho} : ∀ {vs : List V} {rs : List Rv}, RvsOk K F σ ρ vs rs → vs.length = rs.length
  | _, _, .nil => rfl
  | _, _, .cons _ t => by simp [rvs_len t]
noncomputable def fpArgs (rs : List Rv) (fp : FP) : FP := fun k => match rs[k]? with
  | some (.o i) => fp i
  | _ => []
theorem sg_map {vs : List V} {k : Nat} {v : V} (h : vs[k]? = some v) : sg (vs.map some) k = some v := by
  unfold sg
  rw [List.getElem?_map, h]
  rfl
section
variable {K : Fg} {F H : Hp} {σ : Sg} {ρ : Rho} {fp : FP} {vs : List V} {rs : List Rv} {args : List Sl}
theorem mem_fpArgs {k : Nat} {b : Addr} (h : b ∈ fpArgs rs fp k) : ∃ i, rs[k]? = some (.o i) ∧ b ∈ fp i := by
  unfold fpArgs at h
  split at h
  · rename_i i hi; exact ⟨i, hi, h⟩
  · cases h
theorem args_env (E : EnvOk K F H σ ρ fp) (r : RvsOk K F σ ρ vs rs) (ha : argSls ρ rs = some args) (ho : oneEach rs = true) : EnvOk K F H (vs.map some) args (fpArgs rs fp) := by
  have hl := argSls_len ha
  have hv := rvs_len r
  refine ⟨E.sub, by rw [List.length_map]; omega, fun k s hs => ?_, fun k hk => ?_, fun k => ?_, fun k l b h1 h2 => ?_, E.tb, fun j i p t h1 h2 => ?_⟩
  rotate_left 4
  · exfalso
    have hj : j < rs.length := by have := (List.getElem?_eq_some_iff.mp h1).1; omega
    obtain ⟨a, g1, g2⟩ := argSls_get ha (List.getElem?_eq_getElem hj)
    rw [h1] at g1; cases g1
    cases hr : rs[j] with
    | d x => rw [hr] at g2; simp only [argSl] at g2; cases g2
    | o i => rw [hr] at g2; simp only [argSl] at g2; split at g2 <;> cases g2
  · have hk : k < rs.length := by have := (List.getElem?_eq_some_iff.mp hs).1; omega
    obtain ⟨a, h1, h2⟩ := argSls_get ha (List.getElem?_eq_getElem hk)
    rw [h1] at hs; cases hs
    obtain ⟨v, h3, h4⟩ := rvs_get r (List.getElem?_eq_getElem hk)
    rw [sg_map h3]
    unfold fpArgs
    rw [List.getElem?_eq_getElem hk]
    cases hr : rs[k] with
    | d x =>
      rw [hr] at h2 h4
      simp only [argSl] at h2
      cases h2
      exact ⟨v, rfl, h4⟩
    | o i =>
      rw [hr] at h2 h4
      obtain ⟨hu, m, t, e⟩ := h4
      simp only [argSl, e] at h2
      cases h2
      obtain ⟨u, e1, e2⟩ := E.sl i _ e
      rw [hu] at e1; cases e1
      exact ⟨v, rfl, e2⟩
  · unfold fpArgs
    split
    · rename_i i hi
      exfalso
      obtain ⟨a, h1, h2⟩ := argSls_get ha hi
      simp only [argSl] at h2
      split at h2
      · rename_i m t e
        cases h2
        exact hk _ t h1
      · cases h2
    · rfl
  · unfold fpArgs
    split
    · exact E.nd _
    · exact List.nodup_nil
  · obtain ⟨i, hi, hb⟩ := mem_fpArgs h1
    obtain ⟨j, hj, hb'⟩ := mem_fpArgs h2
    have e := E.ap i j b hb hb'
    subst e
    have a := posOf_of ho hi
    have c := posOf_of ho hj
    rw [a] at c
    exact Option.some.inj c
noncomputable def fpBack (rs : List Rv) (fp fpA : FP) : FP := fun i => match posOf rs i with
  | some k => fpA k
  | none => fp i
theorem call_step {F' H' : Hp} {fpA : FP} {os : List Sl} {Ts : List Nat} (E : EnvOk K F H σ ρ fp) (r : RvsOk K F σ ρ vs rs) (ha : argSls ρ rs = some args) (ho : oneEach rs = true) (hT : allIn Ts rs = true)
    (s : Step K F H (vs.map some) args (fpArgs rs fp) F' H' (vs.map some) os fpA) (hos : ∀ (k : Nat) m t, args[k]? = some (Sl.own m t) → ∃ m' t', os[k]? = some (Sl.own m' t')) :
    EStep K Ts F H σ ρ fp F' H' (wb ρ rs os) (fpBack rs fp fpA) := by
  have oA : ∀ {b}, Owns (fpArgs rs fp) b → Owns fp b := fun {b} ⟨k, h⟩ => let ⟨i, _, hb⟩ := mem_fpArgs h; ⟨i, hb⟩
  -- at a slot that is handed in
  have inn : ∀ (i k : Nat), posOf rs i = some k → ∃ m t v m' t', ρ[i]? = some (Sl.own m t) ∧ sg σ i = some v ∧ vs[k]? = some v ∧ args[k]? = some (Sl.own m.arg t) ∧ os[k]? = some (Sl.own m' t') ∧ (wb ρ rs os)[i]? = some (Sl.own m t') ∧ TrOk K F' H' v t' (fpA k) := by
    intro i k hp
    have hk := posOf_get hp
    obtain ⟨v, h1, hu, m, t, e⟩ := rvs_get r hk
    obtain ⟨a, h2, h3⟩ := argSls_get ha hk
    simp only [argSl, e] at h3
    cases h3
    obtain ⟨m', t', h4⟩ := hos k _ t h2
    obtain ⟨u, e1, e2⟩ := s.env.sl k _ h4
    rw [sg_map h1] at e1; cases e1
    refine ⟨m, t, v, m', t', e, hu, h1, h2, h4, ?_, e2⟩
    rw [wb_get, e]
    simp only [Option.map_some, hp, h4, wb1]
  have outT : ∀ (i : Nat), posOf rs i = none → ∀ b ∈ fp i, H' b = H b ∧ F' b = none := by
    intro i hp b hb
    have hn : ¬ Owns (fpArgs rs fp) b := fun ⟨k, h⟩ => by
      obtain ⟨j, hj, hb'⟩ := mem_fpArgs h
      have e := E.ap i j b hb hb'
      subst e
      rw [posOf_of ho hj] at hp
      cases hp
    obtain ⟨h1, h2⟩ := E.there ⟨i, hb⟩
    constructor
    · cases q : H b with
      | none => exact absurd q h1
      | some o => exact s.frame b o q hn fun ps z => E.ntb ⟨i, hb⟩ ps (z ▸ q)
    · cases q : F' b with
      | none => rfl
      | some o =>
        rcases s.nf b h2 (by rw [q]; exact fun z => nomatch z) with z | z | z
        · exact absurd z h1
        · exact absurd z hn
        · exact absurd z (E.nkt ⟨i, hb⟩)
  have get0 : ∀ (i : Nat), posOf rs i = none → (wb ρ rs os)[i]? = ρ[i]? := by
    intro i hp
    rw [wb_get]
    cases ρ[i]? with
    | none => rfl
    | some x => simp [hp]
  refine ⟨⟨⟨s.env.sub, ?_, fun i u hu => ?_, fun i hi => ?_, fun i => ?_, fun i j b h1 h2 => ?_, s.env.tb, E.al' (fun j i p h => ?_) fun i p t h => ?_⟩, s.fr, fun b h h' => (s.nf b h h').imp_right (Or.imp_left oA), s.dom, fun b o h n => s.frame b o h (fun z => n (oA z)), fun b hb => ?_, fun i m t h hm => ?_, fun i t h => ?_⟩, fun i m t h => ?_, fun i hi => ?_⟩
  rotate_left 5
  · cases hp : posOf rs j with
    | some k =>
      obtain ⟨m, t, v, m', t', e1, e2, e3, e4, e5, e6, e7⟩ := inn j k hp
      rw [e6] at h; cases h
    | none => rw [get0 j hp] at h; exact ⟨h, rfl⟩
  · cases hp : posOf rs i with
    | some k =>
      obtain ⟨m, t0, v, m', t', e1, e2, e3, e4, e5, e6, e7⟩ := inn i k hp
      rw [e6] at h; cases h
      obtain ⟨_, l1, l2, l3⟩ := s.lock k t0 e4
      rw [l1] at e5; cases e5
      have ek : fpArgs rs fp k = fp i := by unfold fpArgs; rw [posOf_get hp]
      exact ⟨e1, rfl, fun b hb => l3 b (by rw [ek]; exact hb)⟩
    | none => rw [get0 i hp] at h; exact ⟨h, rfl, fun b hb => (outT i hp b hb).1⟩
  rotate_right 5
  · unfold wb; rw [wbGo_len]; exact E.len
  · cases hp : posOf rs i with
    | some k =>
      obtain ⟨m, t, v, m', t', e1, e2, e3, e4, e5, e6, e7⟩ := inn i k hp
      rw [e6] at hu; cases hu
      unfold fpBack
      rw [hp, e2]
      exact ⟨v, rfl, e7⟩
    | none =>
      rw [get0 i hp] at hu
      unfold fpBack
      rw [hp]
      have q := E.sl i u hu
      cases u with
      | no => trivial
      | al _ _ => trivial
      | val d => obtain ⟨v, e1, e2⟩ := q; exact ⟨v, e1, dq_mono s.fr _ _ e2⟩
      | own m t => obtain ⟨v, e1, e2⟩ := q; exact ⟨v, e1, e2.move s.fr (outT i hp)⟩
  · unfold fpBack
    cases hp : posOf rs i with
    | some k =>
      obtain ⟨m, t, v, m', t', e1, e2, e3, e4, e5, e6, e7⟩ := inn i k hp
      exact absurd e6 (hi m t')
    | none =>
      refine E.nil i fun m t z => hi m t ?_
      rw [get0 i hp]; exact z
  · unfold fpBack
    split
    · exact s.env.nd _
    · exact E.nd i
  · have cross : ∀ (i j k : Nat), posOf rs i = some k → posOf rs j = none → b ∈ fpA k → b ∈ fp j → False := by
      intro i j k hi hj h1 h2
      rcases s.own b ⟨k, h1⟩ with ⟨l, z⟩ | z
      · obtain ⟨i', hi', hb'⟩ := mem_fpArgs z
        have e := E.ap j i' b h2 hb'
        subst e
        rw [posOf_of ho hi'] at hj
        cases hj
      · exact (E.there ⟨j, h2⟩).1 z
    unfold fpBack at h1 h2
    cases hi : posOf rs i with
    | some k =>
      rw [hi] at h1
      cases hj : posOf rs j with
      | some l =>
        rw [hj] at h2
        have e := s.env.ap k l b h1 h2
        subst e
        have a := posOf_get hi
        have c := posOf_get hj
        rw [a] at c
        cases c
        rfl
      | none => rw [hj] at h2; exact (cross i j k hi hj h1 h2).elim
    | none =>
      rw [hi] at h1
      cases hj : posOf rs j with
      | some l => rw [hj] at h2; exact (cross j i l hj hi h2 h1).elim
      | none => rw [hj] at h2; exact E.ap i j b h1 h2
  · obtain ⟨i, h⟩ := hb
    unfold fpBack at h
    cases hi : posOf rs i with
    | some k => rw [hi] at h; exact (s.own b ⟨k, h⟩).imp_left oA
    | none => rw [hi] at h; exact .inl ⟨i, h⟩
  · cases hp : posOf rs i with
    | some k =>
      obtain ⟨m0, t0, v, m', t', e1, e2, e3, e4, e5, e6, e7⟩ := inn i k hp
      rw [h] at e1; cases e1
      exact ⟨rfl, _, t', e6, hm⟩
    | none => exact ⟨rfl, m, t, by rw [get0 i hp]; exact h, hm⟩
  · cases hp : posOf rs i with
    | some k =>
      obtain ⟨m, t0, v, m', t', e1, e2, e3, e4, e5, e6, e7⟩ := inn i k hp
      rw [h] at e1; cases e1
      obtain ⟨_, l1, l2, l3⟩ := s.lock k t e4
      rw [l1] at e5; cases e5
      have ek : fpArgs rs fp k = fp i := by unfold fpArgs; rw [posOf_get hp]
      refine ⟨rfl, e6, ?_, fun b hb => l3 b (by rw [ek]; exact hb)⟩
      unfold fpBack
      rw [hp]
      exact l2.trans ek
    | none =>
      refine ⟨rfl, by rw [get0 i hp]; exact h, ?_, fun b hb => (outT i hp b hb).1⟩
      unfold fpBack
      rw [hp]
  · cases hp : posOf rs i with
    | some k =>
      obtain ⟨m0, t0, v, m', t', e1, e2, e3, e4, e5, e6, e7⟩ := inn i k hp
      rw [h] at e1; cases e1
      exact ⟨t', e6⟩
    | none => exact ⟨t, by rw [get0 i hp]; exact h⟩
  · cases hp : posOf rs i with
    | some k => exact absurd (allIn_of hT (posOf_get hp)) hi
    | none =>
      refine ⟨get0 i hp, ?_, fun b hb => (outT i hp b hb).1⟩
      unfold fpBack
      rw [hp]
theorem call_new {F' H' : Hp} {fpA : FP} {v : V} {t : Tr} {A : List Addr} (E : EnvOk K F H σ ρ fp) (ho : oneEach rs = true) (n : NewOk K H (fpArgs rs fp) F' H' fpA v t A) : NewOk K H fp F' H' (fpBack rs fp fpA) v t A := by
  refine ⟨n.ok, n.nd, fun b hb => (n.new b hb).imp_right fun ⟨k, h⟩ => let ⟨i, _, z⟩ := mem_fpArgs h; ⟨i, z⟩, fun b hb z => ?_⟩
  obtain ⟨i, h⟩ := z
  unfold fpBack at h
  cases hp : posOf rs i with
  | some k => rw [hp] at h; exact n.out b hb ⟨k, h⟩
  | none =>
    rw [hp] at h
    rcases n.new b hb with z | ⟨k, z⟩
    · exact (E.there ⟨i, h⟩).1 z
    · obtain ⟨j, hj, hb'⟩ := mem_fpArgs z
      have e := E.ap i j b h hb'
      subst e
      rw [posOf_of ho hj] at hp
      cases hp
end
noncomputable def backOk : List Sl → List Sl → Bool
  | [], _ => true
  | .own _ _ :: as, .own _ _ :: os => backOk as os
  | .own _ _ :: _, _ => false
  | _ :: as, _ :: os => backOk as os
  | _ :: _, [] => false
theorem backOk_get : ∀ {as os : List Sl} {k : Nat} {m : Md} {t : Tr}, backOk as os = true → as[k]? = some (.own m t) → ∃ m' t', os[k]? = some (.own m' t')
  | [], _, _, _, _, _, h => by simp at h
  | .own m0 t0 :: as, .own m1 t1 :: os, 0, _, _, _, _ => ⟨m1, t1, rfl⟩
  | .own m0 t0 :: as, .own m1 t1 :: os, k + 1, _, _, b, h => by
    simp only [backOk] at b
    obtain ⟨m', t', e⟩ := backOk_get (k := k) b (by simpa using h)
    exact ⟨m', t', by simpa using e⟩
  | .own _ _ :: _, .no :: _, _, _, _, b, _ => by simp [backOk] at b
  | .own _ _ :: _, .val _ :: _, _, _, _, b, _ => by simp [backOk] at b
  | .own _ _ :: _, .al _ _ :: _, _, _, _, b, _ => by simp [backOk] at b
  | .own _ _ :: _, [], _, _, _, b, _ => by simp [backOk] at b
  | .al _ _ :: as, o :: os, 0, _, _, _, h => by simp at h
  | .al _ _ :: as, o :: os, k + 1, _, _, b, h => by
    have b' : backOk as os = true := by cases o <;> simpa [backOk] using b
    obtain ⟨m', t', e⟩ := backOk_get (k := k) b' (by simpa using h)
    exact ⟨m', t', by simpa using e⟩
  | .al _ _ :: _, [], _, _, _, b, _ => by simp [backOk] at b
  | .no :: as, o :: os, 0, _, _, _, h => by simp at h
  | .val _ :: as, o :: os, 0, _, _, _, h => by simp at h
  | .no :: as, o :: os, k + 1, _, _, b, h => by
    have b' : backOk as os = true := by cases o <;> simpa [backOk] using b
    obtain ⟨m', t', e⟩ := backOk_get (k := k) b' (by simpa using h)
    exact ⟨m', t', by simpa using e⟩
  | .val _ :: as, o :: os, k + 1, _, _, b, h => by
    have b' : backOk as os = true := by cases o <;> simpa [backOk] using b
    obtain ⟨m', t', e⟩ := backOk_get (k := k) b' (by simpa using h)
    exact ⟨m', t', by simpa using e⟩
  | .no :: _, [], _, _, _, b, _ => by simp [backOk] at b
  | .val _ :: _, [], _, _, _, b, _ => by simp [backOk] at b
noncomputable def callN (Ts : List Nat) (m : Nat) (f : Fn) (rs : List Rv) : M Tr := fun ρ => match argSls ρ rs with
  | some args => if decide (rs.length = m) && (oneEach rs && allIn Ts rs) then (match f args with
    | some (.ret t, outs) => if backOk args (mrg args outs) then some (.ok t (wb ρ rs (mrg args outs))) else none
    | _ => none) else none
  | none => none
noncomputable def nCall (Ts : List Nat) (m : Nat) (f : Fn) (fs : M (List Rv)) : M Tr := bnd fs (callN Ts m f)
section
variable {X : Cx} {T : List Nat} {W : WV} {k m : Nat} {f : Addr} {fd : FuncData} {ps : List Str} {F : Fn} {x : Str} {p pos : Pos} {e : Expr} {es : List Expr} {fs : M (List Rv)} {Ts : List Nat}
theorem vn_call (G : FnOk X.prog X.w X.K X.mg X.base CX0 k f fd ps (spV X.K Wx0 m F)) (hr : Room k X.A) (hg : Gl X x) (hm : X.mg x = some (.ref f)) (hk : PySem.W.keepIn X.K (.ref f) = true) (hb : Binds X.K fd ps [])
    (ha : VA X T W (e :: es) fs) (hdb : (x == ("__debug__" : Str)) = false := by decide) (he : starEach (e :: es) X.env = (false, eval e X.env) :: starEach es X.env := by rfl) (hpl : (backTo pos (starEach es X.env)).any (·.1) = false := by rfl) :
    VN X (T ++ Ts) W (.Call (.Name x p) (e :: es) [] pos) (nCall Ts m F fs) :=
  pe_imp (pe_call G hr hg hm hk hb .nil pass0 ha hdb he hpl) fun σ H Q ⟨F0, ρ, fp, o, E, q, P⟩ => by
    refine tv_bnd (T := T) E q P (fun i hi => List.mem_append_left _ hi) fun rs ρ1 vs H1 F1 fp1 s1 r1 e1 P1 => ?_
    rw [List.append_nil]
    unfold callN at e1
    split at e1
    · rename_i args hargs
      split at e1
      · rename_i ho
        rw [Bool.and_eq_true, Bool.and_eq_true] at ho
        split at e1
        · rename_i t outs hf
          split at e1
          · rename_i hbk
            cases ok_inj e1
            refine ⟨?_, F1, args, fpArgs rs fp1, _, outs, args_env s1.env r1 hargs ho.2.1, hf, fun v A H' F' fp' st n => ?_⟩
            · rw [rvs_len r1]; exact of_decide_eq_true ho.1
            · have s2 := call_step (Ts := Ts) s1.env r1 hargs ho.2.1 ho.2.2 st fun k m t h => backOk_get hbk h
              exact P1 v H' F' _ (s2.sub fun i hi => List.mem_append_right _ hi) ⟨A, call_new s1.env ho.2.1 n⟩
          · cases e1
        · cases e1
      · cases e1
    · cases e1
end
end VL

end

section
set_option Elab.async false
set_option linter.all false
set_option maxRecDepth 100000
namespace VL
open PySem PySem.Spec PyProof.Rows L2

section
variable {X : Cx} {T : List Nat} {W : WV} {pos : Pos}
noncomputable def iEnumD (f : M (List Rv)) : M (List PyData) := bnd f fun rs => fun ρ => match rs with
  | [.d (.list xs)] => some (.ok (enumD xs) ρ)
  | [.d (.tuple xs)] => some (.ok (enumD xs) ρ)
  | _ => none
end

noncomputable def zipD (xs ys : List PyData) : List PyData := (xs.zip ys).map fun p => .tuple [p.1, p.2]
section
variable {X : Cx} {T : List Nat} {W : WV} {pos : Pos}
noncomputable def iZipD (f : M (List Rv)) : M (List PyData) := bnd f fun rs => fun ρ => match rs with
  | [.d (.list xs), .d (.list ys)] => some (.ok (zipD xs ys) ρ)
  | [.d (.tuple xs), .d (.tuple ys)] => some (.ok (zipD xs ys) ρ)
  | _ => none
end
end VL

end

section
set_option Elab.async false
set_option linter.all false
set_option maxRecDepth 100000
namespace VL
open PySem PySem.Spec PyProof.Rows L2

noncomputable def wipeR (ρ : Rho) : List Nat → Rho
  | [] => ρ
  | i :: vs => (wipeR ρ vs).set i .no
noncomputable def noOwn (ρ : Rho) : List Nat → Bool
  | [] => true
  | i :: vs => (match ρ[i]? with
    | some (.own _ _) => false
    | some (.al _ _) => false
    | _ => true) && noOwn ρ vs
noncomputable def restR (ρ0 ρ : Rho) : List Nat → Rho
  | [] => ρ
  | i :: vs => match ρ0[i]? with
    | some s => (restR ρ0 ρ vs).set i s
    | none => restR ρ0 ρ vs
noncomputable def compGo (vs : List Nat) (G : MG) (tt : M Bool) (te : M Rv) : List PyData → List PyData → Rho → Option (List PyData × Rho)
  | [], acc, ρ => some (acc, ρ)
  | x :: xs, acc, ρ => match G x ρ with
    | none => none
    | some ρ1 => match tt ρ1 with
      | some (.ok true ρ2) => (match te ρ2 with
        | some (.ok (.d d) ρ3) => if small (acc.length + 1) && noOwn ρ3 vs then compGo vs G tt te xs (acc ++ [d]) (wipeR ρ3 vs) else none
        | _ => none)
      | some (.ok false ρ2) => if noOwn ρ2 vs then compGo vs G tt te xs acc (wipeR ρ2 vs) else none
      | _ => none
noncomputable def comp1 (vs : List Nat) (G : MG) (tt : M Bool) (te : M Rv) (xs : List PyData) : M Tr := fun ρ =>
  if noOwn ρ vs then (match compGo vs G tt te xs [] (wipeR ρ vs) with
    | some (ds, ρ') => if noOwn ρ' vs then some (.ok (.lst (ds.map .dat)) (restR ρ ρ' vs)) else none
    | none => none) else none
noncomputable def nComp (fi : M (List PyData)) (vs : List Nat) (G : MG) (tt : M Bool) (te : M Rv) : M Tr := bnd fi (comp1 vs G tt te)
noncomputable def tYesM : M Bool := ret true

theorem wipeR_len {ρ : Rho} : ∀ {vs : List Nat}, (wipeR ρ vs).length = ρ.length
  | [] => rfl
  | i :: vs => by unfold wipeR; rw [List.length_set, wipeR_len (vs := vs)]
theorem wipeR_out {ρ : Rho} {j : Nat} : ∀ {vs : List Nat}, j ∉ vs → (wipeR ρ vs)[j]? = ρ[j]?
  | [], _ => rfl
  | i :: vs, h => by
    unfold wipeR
    rw [List.getElem?_set_ne fun z => h (by simp [z])]
    exact wipeR_out fun z => h (List.mem_cons_of_mem _ z)
theorem wipeR_in {ρ : Rho} {j : Nat} {s : Sl} : ∀ {vs : List Nat}, j ∈ vs → (wipeR ρ vs)[j]? = some s → s = .no
  | i :: vs, h, e => by
    unfold wipeR at e
    by_cases hij : i = j
    · subst hij
      by_cases hl : i < (wipeR ρ vs).length
      · rw [List.getElem?_set_self hl] at e; exact (Option.some.inj e).symm
      · rw [List.getElem?_eq_none (by simpa using hl)] at e; cases e
    · rw [List.getElem?_set_ne hij] at e
      rcases List.mem_cons.mp h with z | z
      · exact absurd z.symm hij
      · exact wipeR_in z e
theorem noOwn_get {ρ : Rho} {j : Nat} : ∀ {vs : List Nat}, noOwn ρ vs = true → j ∈ vs → ∀ m t, ρ[j]? ≠ some (.own m t)
  | i :: vs, h, hj, m, t, e => by
    unfold noOwn at h
    rw [Bool.and_eq_true] at h
    rcases List.mem_cons.mp hj with z | z
    · subst z
      rw [e] at h
      exact absurd h.1 Bool.false_ne_true
    · exact noOwn_get h.2 z m t e
theorem noOwn_al {ρ : Rho} {j : Nat} : ∀ {vs : List Nat}, noOwn ρ vs = true → j ∈ vs → ∀ i p, ρ[j]? ≠ some (.al i p)
  | i :: vs, h, hj, m, t, e => by
    unfold noOwn at h
    rw [Bool.and_eq_true] at h
    rcases List.mem_cons.mp hj with z | z
    · subst z
      rw [e] at h
      exact absurd h.1 Bool.false_ne_true
    · exact noOwn_al h.2 z m t e
theorem restR_len {ρ0 ρ : Rho} : ∀ {vs : List Nat}, (restR ρ0 ρ vs).length = ρ.length
  | [] => rfl
  | i :: vs => by
    unfold restR
    split
    · rw [List.length_set, restR_len (vs := vs)]
    · exact restR_len (vs := vs)
theorem restR_out {ρ0 ρ : Rho} {j : Nat} : ∀ {vs : List Nat}, j ∉ vs → (restR ρ0 ρ vs)[j]? = ρ[j]?
  | [], _ => rfl
  | i :: vs, h => by
    unfold restR
    split
    · rw [List.getElem?_set_ne fun z => h (by simp [z])]
      exact restR_out fun z => h (List.mem_cons_of_mem _ z)
    · exact restR_out fun z => h (List.mem_cons_of_mem _ z)
theorem restR_in {ρ0 ρ : Rho} {j : Nat} (hl : ρ0.length = ρ.length) : ∀ {vs : List Nat}, j ∈ vs → (restR ρ0 ρ vs)[j]? = ρ0[j]?
  | i :: vs, h => by
    unfold restR
    by_cases hij : i = j
    · subst hij
      cases q : ρ0[i]? with
      | some s =>
        have hi := (List.getElem?_eq_some_iff.mp q).1
        simp only
        rw [List.getElem?_set_self (by rw [restR_len]; omega)]
      | none =>
        simp only
        rw [List.getElem?_eq_none_iff] at q
        rw [List.getElem?_eq_none (by rw [restR_len]; omega)]
    · have hj : j ∈ vs := by
        rcases List.mem_cons.mp h with z | z
        · exact absurd z.symm hij
        · exact z
      split
      · rw [List.getElem?_set_ne hij]
        exact restR_in hl hj
      · exact restR_in hl hj
theorem wipe_out {σ : Sg} {j : Nat} : ∀ {vs : List Nat}, j ∉ vs → sg (wipe σ vs) j = sg σ j
  | [], _ => rfl
  | i :: vs, h => by
    unfold wipe
    rw [sg_set_ne fun z => h (by simp [z])]
    exact wipe_out fun z => h (List.mem_cons_of_mem _ z)
theorem get_of_sg {σ σ' : Sg} (hl : σ'.length = σ.length) {j : Nat} (h : sg σ' j = sg σ j) : σ'[j]? = σ[j]? := by
  unfold sg at h
  by_cases hj : j < σ.length
  · rw [List.getElem?_eq_getElem hj, List.getElem?_eq_getElem (by omega)] at h ⊢
    simpa using h
  · rw [List.getElem?_eq_none (by omega), List.getElem?_eq_none (by omega)]
theorem wipe_get {σ : Sg} {j : Nat} : ∀ {vs : List Nat}, (wipe σ vs)[j]? = if j ∈ vs ∧ j < σ.length then some none else σ[j]?
  | [] => by simp [wipe]
  | i :: vs => by
    unfold wipe
    by_cases hij : i = j
    · subst hij
      by_cases hl : i < σ.length
      · rw [List.getElem?_set_self (by rw [wipe_length]; exact hl), if_pos ⟨by simp, hl⟩]
      · rw [if_neg fun z => hl z.2, List.getElem?_eq_none (by rw [List.length_set, wipe_length]; omega), List.getElem?_eq_none (by omega)]
    · rw [List.getElem?_set_ne hij, wipe_get (vs := vs)]
      have e : (j ∈ i :: vs ∧ j < σ.length) ↔ (j ∈ vs ∧ j < σ.length) := by simp [Ne.symm hij]
      by_cases h : j ∈ vs ∧ j < σ.length
      · rw [if_pos h, if_pos (e.mpr h)]
      · rw [if_neg h, if_neg fun z => h (e.mp z)]
theorem wipe_same {σ σ' : Sg} {vs : List Nat} (hl : σ'.length = σ.length) (h : ∀ j, j ∉ vs → sg σ' j = sg σ j) : wipe σ' vs = wipe σ vs := by
  apply List.ext_getElem?
  intro j
  rw [wipe_get, wipe_get, hl]
  by_cases hj : j ∈ vs ∧ j < σ.length
  · rw [if_pos hj, if_pos hj]
  · rw [if_neg hj, if_neg hj]
    by_cases hv : j ∈ vs
    · have hlt : ¬ j < σ.length := fun z => hj ⟨hv, z⟩
      rw [List.getElem?_eq_none (by omega), List.getElem?_eq_none (by omega)]
    · exact get_of_sg hl (h j hv)
noncomputable def hid (H : Hp) (D : Addr) : Hp := fun b => if b = D then none else H b
theorem hid_ne {H : Hp} {D b : Addr} (h : b ≠ D) : hid H D b = H b := by unfold hid; rw [if_neg h]
theorem hid_at {H : Hp} {D : Addr} : hid H D D = none := by unfold hid; rw [if_pos rfl]
theorem hid_some {H : Hp} {D b : Addr} {o : HO} (h : hid H D b = some o) : b ≠ D ∧ H b = some o := by
  by_cases e : b = D
  · subst e; rw [hid_at] at h; cases h
  · exact ⟨e, by rw [hid_ne e] at h; exact h⟩
theorem hid_upd {H : Hp} {D : Addr} {o : HO} : hid (upd H D o) D = hid H D := by
  funext b
  by_cases e : b = D
  · subst e; rw [hid_at, hid_at]
  · rw [hid_ne e, hid_ne e, upd_ne e]
theorem hid_free {H : Hp} {D : Addr} (h : H D = none) : hid H D = H := by
  funext b
  by_cases e : b = D
  · subst e; rw [hid_at, h]
  · rw [hid_ne e]
section
variable {K : Fg} {F H F' H' : Hp} {σ σ' : Sg} {ρ ρ' : Rho} {fp fp' : FP} {D : Addr} {vs : List Nat}
theorem env_hid (E : EnvOk K F H σ ρ fp) (hF : F D = none) (hO : ¬ Owns fp D) (hD : ∀ ps, H D ≠ some (.tbl ps)) : EnvOk K F (hid H D) σ ρ fp := by
  refine ⟨fun b o e => ?_, E.len, fun i s h => ?_, E.nil, E.nd, E.ap, E.tb.mono (Same.refl _) fun P ps h1 h2 => ⟨h2, hid_ne fun z => by subst z; exact hD ps h1⟩, E.al' (fun _ _ _ h => ⟨h, rfl⟩) fun i _ _ h => ⟨h, rfl, fun b hb => hid_ne fun z => by subst z; exact hO ⟨i, hb⟩⟩⟩
  · rw [hid_ne fun z => by subst z; rw [hF] at e; cases e]
    exact E.sub b o e
  · have q := E.sl i s h
    cases s with
    | no => trivial
    | al _ _ => trivial
    | val d => exact q
    | own m t =>
      obtain ⟨u, e1, e2⟩ := q
      exact ⟨u, e1, e2.move (Same.refl _) fun b hb => ⟨hid_ne fun z => by subst z; exact hO ⟨i, hb⟩, (e2.mem b hb).2⟩⟩
theorem env_show (E : EnvOk K F (hid H D) σ ρ fp) : EnvOk K F H σ ρ fp := by
  refine ⟨fun b o e => (hid_some (E.sub b o e)).2, E.len, fun i s h => ?_, E.nil, E.nd, E.ap, E.tb.mono (Same.refl _) fun P ps h1 h2 => ⟨h2, (hid_some h1).2.trans h1.symm⟩, E.al' (fun _ _ _ h => ⟨h, rfl⟩) fun i _ _ h => ⟨h, rfl, fun b hb => by
    cases z : hid H D b with
    | none => exact absurd z (E.there ⟨i, hb⟩).1
    | some o => exact (hid_some z).2⟩⟩
  have q := E.sl i s h
  cases s with
  | no => trivial
  | al _ _ => trivial
  | val d => exact q
  | own m t =>
    obtain ⟨u, e1, e2⟩ := q
    refine ⟨u, e1, e2.move (Same.refl _) fun b hb => ⟨?_, (e2.mem b hb).2⟩⟩
    cases z : hid H D b with
    | none => exact absurd z (e2.mem b hb).1
    | some o => exact (hid_some z).2
theorem step_keeps (s : Step K F H σ ρ fp F' H' σ' ρ' fp') {o : HO} (hD : H D = some o) (hF : F D = none) (hO : ¬ Owns fp D) (hn : ∀ ps, o ≠ .tbl ps := by exact fun _ z => nomatch z) (hk : ∀ ks : List Key, o ≠ .tup (ks.map kV) := by exact fun _ z => nomatch z) : H' D = some o ∧ F' D = none ∧ ¬ Owns fp' D := by
  refine ⟨s.frame D o hD hO hn, ?_, fun z => ?_⟩
  · cases q : F' D with
    | none => rfl
    | some u =>
      rcases s.nf D hF (by rw [q]; exact fun z => nomatch z) with z | z | ⟨ks, z⟩ | ⟨ps, z⟩
      · rw [hD] at z; cases z
      · exact absurd z hO
      · rw [hD] at z; exact absurd (Option.some.inj z) (hk ks)
      · rw [hD] at z; exact absurd (Option.some.inj z) (hn ps)
  · rcases s.own D z with z | z
    · exact hO z
    · rw [hD] at z; cases z
theorem step_hid (s : Step K F H σ ρ fp F' H' σ' ρ' fp') (hF : F' D = none) (hO : ¬ Owns fp' D) (hn : ∀ ps, H' D ≠ some (.tbl ps)) : Step K F (hid H D) σ ρ fp F' (hid H' D) σ' ρ' fp' := by
  refine ⟨env_hid s.env hF hO hn, s.fr, fun b h h' => ?_, fun b h => ?_, fun b o h n nt => ?_, fun b h => (s.own b h).imp_right fun z => ?_, s.pin, fun i t h => ?_⟩
  · by_cases e : b = D
    · subst e; exact .inl hid_at
    · unfold KT
      rw [hid_ne e]; exact s.nf b h h'
  · by_cases e : b = D
    · subst e; exact hid_at
    · rw [hid_ne e] at h ⊢; exact s.dom b h
  · obtain ⟨e, h⟩ := hid_some h
    rw [hid_ne e]
    exact s.frame b o h n nt
  · by_cases e : b = D
    · subst e; exact hid_at
    · rw [hid_ne e]; exact z
  · obtain ⟨a, b, c, d⟩ := s.lock i t h
    refine ⟨a, b, c, fun x hx => ?_⟩
    by_cases e : x = D
    · subst e; rw [hid_at, hid_at]
    · rw [hid_ne e, hid_ne e]; exact d x hx
theorem wipe_step {σin : Sg} (E : EnvOk K F H σ ρ fp) (hn : noOwn ρ vs = true) (hl : σin.length = σ.length) (hs : ∀ i, i ∉ vs → sg σin i = sg σ i) : Step K F H σ ρ fp F H σin (wipeR ρ vs) fp := by
  have own : ∀ {i m t}, (wipeR ρ vs)[i]? = some (Sl.own m t) → i ∉ vs ∧ ρ[i]? = some (Sl.own m t) := fun {i m t} h => by
    by_cases hi : i ∈ vs
    · exact nomatch wipeR_in hi h
    · exact ⟨hi, by rw [wipeR_out hi] at h; exact h⟩
  have out : ∀ {i m t}, ρ[i]? = some (Sl.own m t) → i ∉ vs := fun {i m t} h hi => noOwn_get hn hi m t h
  refine ⟨⟨E.sub, by rw [wipeR_len, hl]; exact E.len, fun i s h => ?_, fun i h => ?_, E.nd, E.ap, E.tb, E.al' (fun j i p h => ?_) fun i p t h => ?_⟩, Same.refl _, fun _ h h' => absurd h h', fun _ h => h, fun _ _ h _ _ => h, fun _ h => .inl h, fun i m t h hm => ?_, fun i t h => ?_⟩
  rotate_left 2
  · by_cases hi : j ∈ vs
    · exact nomatch wipeR_in hi h
    · rw [wipeR_out hi] at h; exact ⟨h, hs j hi⟩
  · exact ⟨(own h).2, hs i (own h).1, fun _ _ => rfl⟩
  rotate_right 2
  · by_cases hi : i ∈ vs
    · have := wipeR_in hi h
      subst this
      trivial
    · rw [wipeR_out hi] at h
      rw [hs i hi]
      exact E.sl i s h
  · refine E.nil i fun m t z => h m t ?_
    rw [wipeR_out (out z)]
    exact z
  · exact ⟨hs i (out h), m, t, by rw [wipeR_out (out h)]; exact h, hm⟩
  · exact ⟨hs i (out h), by rw [wipeR_out (out h)]; exact h, rfl, fun _ _ => rfl⟩
end
structure Blk (K : Fg) (T vs : List Nat) (F H : Hp) (σ : Sg) (ρ : Rho) (fp : FP) (F' H' : Hp) (σ' : Sg) (ρ' : Rho) (fp' : FP) : Prop where
  st : Step K F H σ ρ fp F' H' σ' ρ' fp'
  len : σ'.length = σ.length
  rl : ρ'.length = ρ.length
  sv : ∀ i, i ∉ vs → sg σ' i = sg σ i
  ko : ∀ (i : Nat) m t, i ∉ vs → ρ[i]? = some (Sl.own m t) → ∃ t', ρ'[i]? = some (Sl.own m t')
  un : ∀ (i : Nat), i ∉ vs → i ∉ T → ρ'[i]? = ρ[i]? ∧ fp' i = fp i ∧ ∀ b ∈ fp i, H' b = H b
section
variable {K : Fg} {T vs : List Nat} {F H F1 H1 F2 H2 : Hp} {σ σ1 σ2 : Sg} {ρ ρ1 ρ2 : Rho} {fp fp1 fp2 : FP}
theorem Blk.refl (E : EnvOk K F H σ ρ fp) : Blk K T vs F H σ ρ fp F H σ ρ fp := ⟨.refl E, rfl, rfl, fun _ _ => rfl, fun _ _ t _ h => ⟨t, h⟩, fun _ _ _ => ⟨rfl, rfl, fun _ _ => rfl⟩⟩
theorem Blk.trans (a : Blk K T vs F H σ ρ fp F1 H1 σ1 ρ1 fp1) (b : Blk K T vs F1 H1 σ1 ρ1 fp1 F2 H2 σ2 ρ2 fp2) : Blk K T vs F H σ ρ fp F2 H2 σ2 ρ2 fp2 :=
  ⟨a.st.trans b.st, b.len.trans a.len, b.rl.trans a.rl, fun i hi => (b.sv i hi).trans (a.sv i hi), fun i m t hi h => let ⟨t1, h1⟩ := a.ko i m t hi h; b.ko i m t1 hi h1, fun i hi hT => by
    obtain ⟨a1, a2, a3⟩ := a.un i hi hT
    obtain ⟨b1, b2, b3⟩ := b.un i hi hT
    exact ⟨b1.trans a1, b2.trans a2, fun c hc => (b3 c (by rw [a2]; exact hc)).trans (a3 c hc)⟩⟩
theorem Blk.of_e {T1 : List Nat} (E : EnvOk K F H σ ρ fp) (a : EStep K T1 F H σ ρ fp F1 H1 ρ1 fp1) (hT : ∀ i ∈ T1, i ∈ T) : Blk K T vs F H σ ρ fp F1 H1 σ ρ1 fp1 :=
  ⟨a.st, rfl, by have h1 := a.env.len; have h2 := E.len; omega, fun _ _ => rfl, fun i m t _ h => a.ko i m t h, fun i _ hi => a.un i fun z => hi (hT i z)⟩
theorem Blk.of_g {ws : List Nat} (E : EnvOk K F H σ ρ fp) (s : Step K F H σ ρ fp F H σ1 ρ1 fp1) (o : Off ws σ ρ fp σ1 ρ1 fp1) (hw : ∀ i ∈ ws, i ∈ vs) : Blk K T vs F H σ ρ fp F H σ1 ρ1 fp1 :=
  ⟨s, o.1, by have h1 := s.env.len; have h2 := E.len; have h3 := o.1; omega, fun i hi => (o.2 i fun z => hi (hw i z)).1, fun i m t hi h => ⟨t, by rw [(o.2 i fun z => hi (hw i z)).2.1]; exact h⟩, fun i hi _ => ⟨(o.2 i fun z => hi (hw i z)).2.1, (o.2 i fun z => hi (hw i z)).2.2, fun _ _ => rfl⟩⟩
theorem Blk.of_w {σin : Sg} (E : EnvOk K F H σ ρ fp) (hn : noOwn ρ vs = true) (hl : σin.length = σ.length) (hs : ∀ i, i ∉ vs → sg σin i = sg σ i) : Blk K T vs F H σ ρ fp F H σin (wipeR ρ vs) fp :=
  ⟨wipe_step E hn hl hs, hl, wipeR_len, hs, fun i m t hi h => ⟨t, by rw [wipeR_out hi]; exact h⟩, fun i hi _ => ⟨wipeR_out hi, rfl, fun _ _ => rfl⟩⟩
theorem Blk.hid {D : Addr} {o : HO} (s : Blk K T vs F H σ ρ fp F1 H1 σ1 ρ1 fp1) (hF : F1 D = none) (hO : ¬ Owns fp1 D) (hD : H1 D = some o) (hn : ∀ ps, o ≠ .tbl ps := by exact fun _ z => nomatch z) : Blk K T vs F (hid H D) σ ρ fp F1 (VL.hid H1 D) σ1 ρ1 fp1 :=
  ⟨step_hid s.st hF hO (fun ps z => hn ps (Option.some.inj (hD.symm.trans z))), s.len, s.rl, s.sv, s.ko, fun i hi hT => by
    obtain ⟨a, b, c⟩ := s.un i hi hT
    refine ⟨a, b, fun x hx => ?_⟩
    by_cases e : x = D
    · subst e; rw [hid_at, hid_at]
    · rw [hid_ne e, hid_ne e]; exact c x hx⟩
end
noncomputable def VTs (X : Cx) (T : List Nat) (W : WV) (ifs : List Expr) (f : M Bool) : Prop := PTs X ifs (tVT X.K T W f)
section
variable {X : Cx} {T T1 T2 T3 : List Nat} {W : WV} {pos : Pos}
theorem pts_imp {e : List Expr} {t t' : TT} (h : PTs X e t) (i : ∀ σ H Q, t' σ H Q → t σ H Q) : PTs X e t' := ⟨fun pins s σ H Q I q => h.run pins s σ H Q I (i σ H Q q)⟩
theorem vts_nil : VTs X [] W [] tYesM := pts_imp pts_nil fun σ H Q ⟨F, ρ, fp, o, E, e, P⟩ => by
  cases ok_inj e
  exact P _ H F fp (.refl E) rfl
theorem vts_one {c : Expr} {fc : M Bool} (h : VT X T W c fc) : VTs X T W [c] fc := pts_one h
theorem tv_comp {K : Fg} {σ : Sg} {H : Hp} {Q : VK} {wi : TI} {fi : M (List PyData)} {gt : TG} {ws vs : List Nat} {G : MG} {tt : M Bool} {te : M Rv}
    (hi : ∀ σ H R F ρ fp o, EnvOk K F H σ ρ fp → fi ρ = some o →
      (match o with
       | Er.ok xs ρ' => ∀ J G Y H1 F1 fp1, EStep K T1 F H σ ρ fp F1 H1 ρ' fp1 → Walk J xs.length G Y → (∀ F2 H2, Same F1 F2 → Same F2 H2 → G H2) →
          (∀ i F2 H2 x H3, i < xs.length → Same F1 F2 → Same F2 H2 → Y i H2 x H3 → ∃ F3 d, xs[i]? = some d ∧ Grow F2 H2 F3 H3 ∧ Dq K F3 x d) → R J H1
       | Er.ex c ρ' => ∀ H1 F1 fp1, EStep K T1 F H σ ρ fp F1 H1 ρ' fp1 → W c σ H1) → wi σ H R)
    (hg : GOk K gt ws G) (hw : ∀ i ∈ ws, i ∈ vs) (h : tVN K (T1 ++ (T2 ++ T3)) W (nComp fi vs G tt te) σ H Q) : tLc wi gt (tVT K T2 W0 tt) (tV K T3 W0 te) vs σ H Q := by
  obtain ⟨F, ρ, fp, o, E, e, P⟩ := h
  unfold nComp bnd at e
  cases hf : fi ρ with
  | none => rw [hf] at e; cases e
  | some r =>
    rw [hf] at e
    cases r with
    | ex c ρ1 => cases e; exact hi σ H _ F ρ fp _ E hf fun H1 F1 fp1 s1 => P H1 F1 fp1 (s1.sub fun i hi => List.mem_append_left _ hi)
    | ok xs ρ1 =>
      refine hi σ H _ F ρ fp _ E hf fun J Gw Y H1 F1 fp1 s1 w hG hY D nD => ?_
      simp only at e
      unfold comp1 at e
      split at e
      · rename_i hn1
        split at e
        · rename_i ds ρe hgo
          split at e
          · rename_i hne
            cases ok_inj e
            have hFD : F1 D = none := s1.env.sub.free nD
            have hOD : ¬ Owns fp1 D := fun z => (s1.env.there z).1 nD
            -- the block's start, the list being hidden
            have b0 : Blk K (T2 ++ T3) vs F1 H1 σ ρ1 fp1 F1 (hid (upd H1 D (.lst [])) D) (wipe σ vs) (wipeR ρ1 vs) fp1 := by
              rw [hid_upd, hid_free nD]
              exact .of_w s1.env hn1 (wipe_length σ vs) fun i hi => wipe_out hi
            refine lc_it w (fun i H' => ∃ F' ρ' fp' acc ds', Blk K (T2 ++ T3) vs F1 H1 σ ρ1 fp1 F' (hid H' D) (wipe σ vs) ρ' fp' ∧ H' D = some (.lst acc) ∧ F' D = none ∧ ¬ Owns fp' D ∧ DqAll K F' acc ds' ∧ compGo vs G tt te (xs.drop i) ds' ρ' = some (ds, ρe))
              ⟨F1, wipeR ρ1 vs, fp1, [], [], b0, upd_same, hFD, hOD, .nil, by rw [List.drop_zero]; exact hgo⟩
              (fun i H' _ ⟨F', ρ', fp', acc, ds', b, _⟩ => hG F' H' b.st.fr (env_show b.st.env).sub) (fun i x H' H3 hilt ⟨F', ρ', fp', acc, ds', b, hD, hFD', hOD', hacc, hgo'⟩ y => ?_) fun H' ⟨F', ρ', fp', acc, ds', b, hD, hFD', hOD', hacc, hgo'⟩ => ?_
            · have E' := env_show b.st.env
              obtain ⟨F3, d, hd, g3, dx⟩ := hY i F' H' x H3 hilt b.st.fr E'.sub y
              have hdrop : xs.drop i = d :: xs.drop (i + 1) := by
                obtain ⟨hi', hd'⟩ := List.getElem?_eq_some_iff.mp hd
                rw [List.drop_eq_getElem_cons hi', hd']
              rw [hdrop] at hgo'
              unfold compGo at hgo'
              have s3 : EStep K [] F' H' (wipe σ vs) ρ' fp' F3 H3 ρ' fp' := g3.step E'
              obtain ⟨hD3, hF3, hO3⟩ := step_keeps s3.st hD hFD' hOD'
              have b3 : Blk K (T2 ++ T3) vs F1 H1 σ ρ1 fp1 F3 (hid H3 D) (wipe σ vs) ρ' fp' := b.trans ((Blk.of_e E' s3 (fun i hi => nomatch hi)).hid hF3 hO3 hD3)
              split at hgo'
              · cases hgo'
              · rename_i ρ4 h4
                refine hg x (wipe σ vs) H3 _ F3 ρ' fp' d ρ4 s3.env dx h4 fun σ4 fp4 s4 o4 => ?_
                have hF4 := hF3
                obtain ⟨hD4, _, hO4⟩ := step_keeps s4 hD3 hF3 hO3
                have b4 := b3.trans ((Blk.of_g (T := T2 ++ T3) s3.env s4 o4 hw).hid hF4 hO4 hD4)
                have hσ4 : wipe σ4 vs = wipe σ vs := wipe_same b4.len b4.sv
                refine ⟨hσ4, ?_⟩
                cases htt : tt ρ4 with
                | none => rw [htt] at hgo'; cases hgo'
                | some rt =>
                  rw [htt] at hgo'
                  cases rt with
                  | ex c ρ5 => cases hgo'
                  | ok k ρ5 =>
                    refine ⟨F3, ρ4, fp4, _, s4.env, htt, fun k' H5 F5 fp5 s5 r5 => ?_⟩
                    have r5 : k' = k := r5
                    subst r5
                    obtain ⟨hD5, hF5, hO5⟩ := step_keeps s5.st hD4 hF4 hO4
                    have b5 := b4.trans ((Blk.of_e (vs := vs) (T := T2 ++ T3) s4.env s5 (fun i hi => List.mem_append_left _ hi)).hid hF5 hO5 hD5)
                    cases k' with
                    | false =>
                      dsimp only
                      rw [if_neg Bool.false_ne_true]
                      simp only at hgo'
                      split at hgo'
                      · rename_i hn5
                        have bw := (Blk.of_w (T := T2 ++ T3) (σin := wipe σ vs) s5.env hn5 (by rw [wipe_length]; exact b5.len.symm) fun i hi => by rw [wipe_out hi]; exact (b5.sv i hi).symm).hid hF5 hO5 hD5
                        exact ⟨F5, wipeR ρ5 vs, fp5, acc, ds', b5.trans bw, hD5, hF5, hO5, dqAll_mono (g3.f.trans s5.st.fr) _ _ hacc, hgo'⟩
                      · cases hgo'
                    | true =>
                      dsimp only
                      rw [if_pos rfl]
                      simp only at hgo'
                      cases hte : te ρ5 with
                      | none => rw [hte] at hgo'; cases hgo'
                      | some re =>
                        rw [hte] at hgo'
                        cases re with
                        | ex c ρ6 => cases hgo'
                        | ok rv ρ6 =>
                          cases rv with
                          | o j => cases hgo'
                          | d d6 =>
                            refine ⟨F5, ρ5, fp5, _, s5.env, hte, fun y6 H6 F6 fp6 s6 r6 => ?_⟩
                            obtain ⟨hD6, hF6, hO6⟩ := step_keeps s6.st hD5 hF5 hO5
                            have b6 := b5.trans ((Blk.of_e (vs := vs) (T := T2 ++ T3) s5.env s6 (fun i hi => List.mem_append_right _ hi)).hid hF6 hO6 hD6)
                            simp only at hgo'
                            split at hgo'
                            · rename_i hn6
                              rw [Bool.and_eq_true] at hn6
                              have hacc6 := dqAll_mono (g3.f.trans (s5.st.fr.trans s6.st.fr)) _ _ hacc
                              refine ⟨acc, hD6, ?_, F6, wipeR ρ6 vs, fp6, acc ++ [y6], ds' ++ [d6], ?_, upd_same, hF6, hO6, dqAll_app hacc6 (.cons r6 .nil), hgo'⟩
                              · have := small_iff.mp hn6.1
                                rw [dqAll_len hacc6]
                                omega
                              · rw [hid_upd]
                                have bw := (Blk.of_w (T := T2 ++ T3) (σin := wipe σ vs) s6.env hn6.2 (by rw [wipe_length]; exact b6.len.symm) fun i hi => by rw [wipe_out hi]; exact (b6.sv i hi).symm).hid hF6 hO6 hD6
                                exact b6.trans bw
                            · cases hgo'
            · rw [List.drop_length] at hgo'
              cases (Option.some.inj hgo')
              -- the end: the slots as they were
              have E' := env_show b.st.env
              have hl1 : ρ1.length = ρe.length := b.rl.symm
              have slot : ∀ (i : Nat), i ∈ vs → (restR ρ1 ρe vs)[i]? = ρ1[i]? := fun i hi => restR_in hl1 hi
              have Er : EnvOk K F' H' σ (restR ρ1 ρe vs) fp' := by
                refine ⟨E'.sub, by rw [restR_len, ← hl1]; exact s1.env.len, fun i s hs => ?_, fun i hi => ?_, E'.nd, E'.ap, E'.tb, E'.al' (fun j i p h => ?_) fun i p t h => ?_⟩
                rotate_left 2
                · by_cases hv : j ∈ vs
                  · rw [slot j hv] at h; exact absurd h (noOwn_al hn1 hv i p)
                  · rw [restR_out hv] at h; exact ⟨h, (wipe_out hv).symm⟩
                · by_cases hv : i ∈ vs
                  · rw [slot i hv] at h; exact absurd h (noOwn_get hn1 hv _ t)
                  · rw [restR_out hv] at h; exact ⟨h, (wipe_out hv).symm, fun _ _ => rfl⟩
                rotate_right 2
                · by_cases hv : i ∈ vs
                  · rw [slot i hv] at hs
                    have q := s1.env.sl i s hs
                    cases s with
                    | no => trivial
                    | al _ _ => trivial
                    | val d => obtain ⟨u, e1, e2⟩ := q; exact ⟨u, e1, dq_mono b.st.fr _ _ e2⟩
                    | own m t => exact absurd hs (noOwn_get hn1 hv m t)
                  · rw [restR_out hv] at hs
                    have q := E'.sl i s hs
                    rw [wipe_out hv] at q
                    exact q
                · by_cases hv : i ∈ vs
                  · exact E'.nil i fun m t z => noOwn_get hne hv m t z
                  · refine E'.nil i fun m t z => hi m t ?_
                    rw [restR_out hv]; exact z
              have fin : EStep K (T1 ++ (T2 ++ T3)) F1 H1 σ ρ1 fp1 F' H' (restR ρ1 ρe vs) fp' := by
                refine ⟨⟨Er, b.st.fr, b.st.nf, fun c hc => ?_, fun c o hc hn nt => (hid_some (b.st.frame c o hc hn nt)).2, b.st.own, fun i m t h hm => ?_, fun i t h => ?_⟩, fun i m t h => ?_, fun i hi => ?_⟩
                · refine b.st.dom c ?_
                  by_cases z : c = D
                  · subst z; exact hid_at
                  · rw [hid_ne z]; exact hc
                · have hv : i ∉ vs := fun z => noOwn_get hn1 z _ _ h
                  obtain ⟨_, m', t', h', k'⟩ := b.st.pin i m t h hm
                  exact ⟨rfl, m', t', by rw [restR_out hv]; exact h', k'⟩
                · have hv : i ∉ vs := fun z => noOwn_get hn1 z _ _ h
                  obtain ⟨_, h', hfp, hb⟩ := b.st.lock i t h
                  refine ⟨rfl, by rw [restR_out hv]; exact h', hfp, fun c hc => ?_⟩
                  have z := hb c hc
                  have hne : c ≠ D := fun z => by subst z; exact hOD ⟨i, hc⟩
                  rw [hid_ne hne] at z
                  exact z
                · have hv : i ∉ vs := fun z => noOwn_get hn1 z _ _ h
                  obtain ⟨t', h'⟩ := b.ko i m t hv h
                  exact ⟨t', by rw [restR_out hv]; exact h'⟩
                · by_cases hv : i ∈ vs
                  · have hnil : fp1 i = [] := s1.env.nil i fun m t z => noOwn_get hn1 hv m t z
                    have hnil' : fp' i = [] := E'.nil i fun m t z => noOwn_get hne hv m t z
                    refine ⟨slot i hv, by rw [hnil, hnil'], fun c hc => ?_⟩
                    rw [hnil] at hc
                    cases hc
                  · obtain ⟨a1, a2, a3⟩ := b.un i hv fun z => hi (List.mem_append_right _ z)
                    refine ⟨by rw [restR_out hv]; exact a1, a2, fun c hc => ?_⟩
                    have z := a3 c hc
                    have hne : c ≠ D := fun z => by subst z; exact hOD ⟨i, hc⟩
                    rw [hid_ne hne] at z
                    exact z
              refine P (.ref D) H' F' fp' ((s1.sub fun i hi => List.mem_append_left _ hi).trans fin) ⟨[D], ?_⟩
              refine ⟨.lst hD hFD' (trs_dat hacc), by simp, fun c hc => ?_, fun c hc => ?_⟩
              · rw [List.mem_singleton.mp hc]
                exact .inl (s1.st.dom D nD)
              · rw [List.mem_singleton.mp hc]
                exact hOD'
          · cases e
        · cases e
      · cases e
theorem vn_comp {elt tg iter : Expr} {ifs : List Expr} {scope : Scope} {own : List (Str × Nat)} {fi : M (List PyData)} {gt : TG} {ws : List Nat} {G : MG} {tt : M Bool} {te : M Rv} (hc : X.calm = true) (hN : X.N.Nodup) (hi : VI X T1 W tg iter fi) (ok : BlkOk X.N X.env.scope scope own)
    (hg : ∀ (s : Shared) (H : Hp) (C : Addr) (cl : List (Str × Addr)) (fp : List Addr), VG (X.blk s H scope (compEnvC scope cl C X.env) fp) tg gt ws G) (hw : ∀ i ∈ ws, i ∈ own.map (·.2))
    (ht : ∀ (s : Shared) (H : Hp) (C : Addr) (cl : List (Str × Addr)) (fp : List Addr), VTs (X.blk s H scope (compEnvC scope cl C X.env) fp) T2 W0 ifs tt)
    (he : ∀ (s : Shared) (H : Hp) (C : Addr) (cl : List (Str × Addr)) (fp : List Addr), VE (X.blk s H scope (compEnvC scope cl C X.env) fp) T3 W0 elt te) (hs : ∀ x, foldedSetIterable iter X.env x = pure x := by intro _; rfl) :
    VN X (T1 ++ (T2 ++ T3)) W (.ListComp elt [⟨tg, iter, ifs, 0⟩] scope pos) (nComp fi (own.map (·.2)) G tt te) := by
  obtain ⟨wi, p1, q1⟩ := hi
  exact pe_imp (pe_lc (tt := tVT X.K T2 W0 tt) (te := tV X.K T3 W0 te) hc hN p1 ok (fun s H C cl fp => (hg s H C cl fp).1) ht he hs) fun σ H Q h => tv_comp q1 (hg ⟨X.s_0.heap, X.s_0.gens, X.s_0.drawn, X.s_0.toks, X.s_0.os⟩ X.H_0 0 [] []).2 hw h
theorem vs_setCompV {i : Nat} {y : Str} {py spos : Pos} {elt tg iter : Expr} {ifs : List Expr} {scope : Scope} {own : List (Str × Nat)} {fi : M (List PyData)} {gt : TG} {ws : List Nat} {G : MG} {tt : M Bool} {te : M Rv} (hc : X.calm = true) (hN : X.N.Nodup) (hi : VI X T1 W tg iter fi) (ok : BlkOk X.N X.env.scope scope own)
    (hg : ∀ (s : Shared) (H : Hp) (C : Addr) (cl : List (Str × Addr)) (fp : List Addr), VG (X.blk s H scope (compEnvC scope cl C X.env) fp) tg gt ws G) (hw : ∀ i ∈ ws, i ∈ own.map (·.2))
    (ht : ∀ (s : Shared) (H : Hp) (C : Addr) (cl : List (Str × Addr)) (fp : List Addr), VTs (X.blk s H scope (compEnvC scope cl C X.env) fp) T2 W0 ifs tt)
    (he : ∀ (s : Shared) (H : Hp) (C : Addr) (cl : List (Str × Addr)) (fp : List Addr), VE (X.blk s H scope (compEnvC scope cl C X.env) fp) T3 W0 elt te) (hy : X.N[i]? = some y := by rfl) (hyl : X.env.scope.names.lookup y = some .local := by rfl)
    (hsw : swapsWith (.ListComp elt [⟨tg, iter, ifs, 0⟩] scope pos) (some (.Name y py)) spos.line X.env = pure true := by exact sw_true rfl rfl rfl (by decide +kernel)) (hs : ∀ x, foldedSetIterable iter X.env x = pure x := by intro _; rfl) :
    VS X W (.Assign [.Name y py] (.ListComp elt [⟨tg, iter, ifs, 0⟩] scope pos) spos) (sSet i (cFrz (nComp fi (own.map (·.2)) G tt te))) := by
  obtain ⟨wi, p1, q1⟩ := hi
  refine ps_imp (ps_setLc (tt := tVT X.K T2 W0 tt) (te := tV X.K T3 W0 te) hc hN hy hyl hsw p1 ok (fun s H C cl fp => (hg s H C cl fp).1) ht he hs) fun D σ H ⟨F, ρ, fp, o, E, e, P⟩ => ?_
  refine tv_comp (T1 := T1) q1 (hg ⟨X.s_0.heap, X.s_0.gens, X.s_0.drawn, X.s_0.toks, X.s_0.os⟩ X.H_0 0 [] []).2 hw (tv_frz (tv_st E e P fun r ρ1 v H1 F1 fp1 s1 r1 e1 _ => ?_))
  cases r with
  | o _ => cases e1
  | d d =>
    obtain ⟨ρ2, e2, rfl⟩ := map_some e1
    exact P _ H1 F1 _ (put_val s1.st e2 r1)
end
end VL

end

section
set_option Elab.async false
set_option linter.all false
set_option maxRecDepth 100000
namespace VL
open PySem PySem.Spec PyProof.Rows L2

theorem kids_set {t k k' : Tr} {j : Nat} (h : (kids t)[j]? = some k) : (kids (setKid t j k'))[j]? = some k' := by
  have hj := (List.getElem?_eq_some_iff.mp h).1
  cases t with
  | dat _ => simp [kids] at hj
  | fk _ => simp [kids] at hj
  | ft _ => simp [kids] at hj
  | raw _ => simp [kids] at hj
  | sd _ => simp [kids] at hj
  | hole => simp [kids] at hj
  | tup ts => exact List.getElem?_set_self hj
  | lst ts => exact List.getElem?_set_self hj
  | dk ts => show ((setSnd ts j k').map (·.2))[j]? = _; rw [setSnd_snd]; exact List.getElem?_set_self hj
  | dt ts => show ((setSnd ts j k').map (·.2))[j]? = _; rw [setSnd_snd]; exact List.getElem?_set_self hj
  | ins c ts => show ((setSnd ts j k').map (·.2))[j]? = _; rw [setSnd_snd]; exact List.getElem?_set_self hj
theorem put_at : ∀ {p : List Nat} {t y t0 : Tr}, t.at p = some t0 → (t.put p y).at p = some y
  | [], t, y, t0, h => by simp [Tr.put, Tr.at]
  | j :: p, t, y, t0, h => by
    simp only [Tr.at] at h
    split at h
    · rename_i k hk
      simp only [Tr.put, hk, Tr.at, kids_set hk]
      exact put_at h
    · cases h
theorem put_app : ∀ {p q : List Nat} {t y tp : Tr}, t.at p = some tp → t.put (p ++ q) y = t.put p (tp.put q y)
  | [], q, t, y, tp, h => by
    simp only [Tr.at] at h
    cases h
    simp [Tr.put]
  | j :: p, q, t, y, tp, h => by
    simp only [Tr.at] at h
    split at h
    · rename_i k hk
      simp only [List.cons_append, Tr.put, hk]
      rw [put_app h]
    · cases h
theorem at_appB : ∀ {p q : List Nat} {t tp : Tr}, t.at p = some tp → t.at (p ++ q) = tp.at q
  | [], q, t, tp, h => by
    simp only [Tr.at] at h
    cases h
    rfl
  | j :: p, q, t, tp, h => by
    simp only [Tr.at] at h
    split at h
    · rename_i k hk
      simp only [List.cons_append, Tr.at, hk]
      exact at_appB h
    · cases h
theorem path_app {H : Hp} : ∀ {p q : List Nat} {u v : V}, pathV H u p = some v → pathV H u (p ++ q) = pathV H v q
  | [], q, u, v, h => by
    simp only [pathV] at h
    cases h
    rfl
  | j :: p, q, u, v, h => by
    simp only [pathV] at h
    split at h
    · rename_i k hk
      simp only [List.cons_append, pathV, hk]
      exact path_app h
    · cases h
noncomputable def Md.wr (m : Md) (r : List Nat) : Prop := m ≠ .lock ∧ ∀ p, m = .bor p → ∃ r', r = p ++ r'
theorem mut_step {K : Fg} {T : List Nat} {F0 H0 F H : Hp} {σ : Sg} {ρ0 ρ : Rho} {fp0 fp : FP} {i : Nat} {m : Md} {t t' t'' : Tr} {u : V} {a : Addr} {p : List Nat} {A : List Addr} {o : HO}
    (s1 : EStep K T F0 H0 σ ρ0 fp0 F H ρ fp) (hi : ρ[i]? = some (.own m t)) (hm : m.wr p) (hu : sg σ i = some u) (hp : t.at p = some t') (hv : pathV H u p = some (.ref a)) (hA : ∀ b ∈ A, ¬ Owns fp b) (hnA : A.Nodup) (hw : ∀ b ∈ A, H0 b = none ∨ Owns fp0 b)
    (ht : ∀ B, TrOk K F H (.ref a) t' B → B.Nodup → (∀ b ∈ A, b ∉ B) → a ∈ B ∧ ∃ B', TrOk K F (upd H a o) (.ref a) t'' B' ∧ B'.Nodup ∧ ∀ b ∈ B', b ∈ B ∨ b ∈ A) :
    ∃ fp', EStep K (T ++ [i]) F0 H0 σ ρ0 fp0 F (upd H a o) (ρ.set i (.own m (t.put p t''))) fp' ∧ (∀ b, Owns fp' b → Owns fp b ∨ b ∈ A) := by
  have E := s1.env
  obtain ⟨u', e1, q⟩ := E.sl i _ hi
  rw [hu] at e1; cases e1
  obtain ⟨v', pre, B, post, g1, g2, g3, g4⟩ := focus q hp
  rw [hv] at g1; cases g1
  have hnd := E.nd i
  rw [g2] at hnd
  have hndB : B.Nodup := (List.nodup_append.mp (List.nodup_append.mp hnd).2.1).1
  have inB : ∀ b ∈ B, b ∈ fp i := fun b z => by rw [g2]; exact List.mem_append_right _ (List.mem_append_left _ z)
  obtain ⟨haB, B', q', hndB', hB'⟩ := ht B g3 hndB fun b hb z => hA b hb ⟨i, inB b z⟩
  have hfree : ∀ b ∈ fp i, F b = none := fun b z => (q.mem b z).2
  have disj1 : ∀ b ∈ pre, ∀ c ∈ B ++ post, b ≠ c := (List.nodup_append.mp hnd).2.2
  have disj2 : ∀ b ∈ B, ∀ c ∈ post, b ≠ c := (List.nodup_append.mp (List.nodup_append.mp hnd).2.1).2.2
  have nea : ∀ b, b ∈ pre ∨ b ∈ post → b ≠ a := fun b z e => by
    rcases z with z | z
    · exact disj1 b z a (List.mem_append_left _ haB) e
    · exact disj2 a haB b z e.symm
  have hin : ∀ b, b ∈ pre ∨ b ∈ post → b ∈ fp i := fun b z => by
    rw [g2]
    rcases z with z | z
    · exact List.mem_append_left _ z
    · exact List.mem_append_right _ (List.mem_append_right _ z)
  obtain ⟨qn, _⟩ := g4 F (upd H a o) t'' B' (Same.refl _) (fun b z => ⟨upd_ne (nea b z), hfree b (hin b z)⟩) q'
  have hil : i < ρ.length := (List.getElem?_eq_some_iff.mp hi).1
  have haO : a ∈ fp i := inB a haB
  have mem' : ∀ b, b ∈ pre ++ (B' ++ post) → b ∈ fp i ∨ b ∈ A := fun b z => by
    rcases List.mem_append.mp z with z | z
    · exact .inl (hin b (.inl z))
    · rcases List.mem_append.mp z with z | z
      · exact (hB' b z).imp_left (inB b)
      · exact .inl (hin b (.inr z))
  have hndn : (pre ++ (B' ++ post)).Nodup := by
    have cross : ∀ b ∈ B', ∀ c, c ∈ pre ∨ c ∈ post → b ≠ c := fun b hb c hc e => by
      subst e
      rcases hB' b hb with z | z
      · rcases hc with w | w
        · exact disj1 b w b (List.mem_append_left _ z) rfl
        · exact disj2 b z b w rfl
      · exact hA b z ⟨i, hin b hc⟩
    refine List.nodup_append.mpr ⟨(List.nodup_append.mp hnd).1, List.nodup_append.mpr ⟨hndB', (List.nodup_append.mp (List.nodup_append.mp hnd).2.1).2.1, fun b hb c hc => cross b hb c (.inr hc)⟩, fun b hb c hc => ?_⟩
    rcases List.mem_append.mp hc with z | z
    · exact fun e => cross c z b (.inl hb) e.symm
    · exact disj1 b hb c (List.mem_append_right _ z)
  have ow : ∀ b, Owns (fset fp i (pre ++ (B' ++ post))) b → Owns fp b ∨ b ∈ A := fun b hb => by
    rcases hb.fset with z | z
    · exact (mem' b z).imp_left fun w => ⟨i, w⟩
    · exact .inl z
  have neJ : ∀ j, j ≠ i → ∀ b ∈ fp j, b ≠ a := fun j hj b hb e => by subst e; exact hj (E.ap j i b hb haO)
  have alK : AlOk (upd H a o) σ (ρ.set i (.own m (t.put p t''))) := by
    intro j k pa tt h1 h2
    have hji : i ≠ j := fun z => by
      subst z
      rw [List.getElem?_set_self hil] at h1
      cases h1
    rw [List.getElem?_set_ne hji] at h1
    by_cases hk : i = k
    · subst hk
      rw [List.getElem?_set_self hil] at h2
      cases h2
      obtain ⟨r', rfl⟩ := hm.2 pa rfl
      obtain ⟨tp, u1, v1, c1, c2, c3, c4⟩ := E.al j i pa t h1 hi
      rw [hu] at c2; cases c2
      obtain ⟨v2, pre1, B1, post1, k1, k2, k3, k4⟩ := focus q c1
      rw [c4] at k1; cases k1
      rw [at_appB c1] at hp
      rw [path_app c4] at hv
      obtain ⟨v3, pre2, B2, post2, l1, l2, l3, l4⟩ := focus k3 hp
      rw [hv] at l1; cases l1
      have nd1 := E.nd i
      rw [k2] at nd1
      have ndB1 : B1.Nodup := (List.nodup_append.mp (List.nodup_append.mp nd1).2.1).1
      have ndB2 : B2.Nodup := by rw [l2] at ndB1; exact (List.nodup_append.mp (List.nodup_append.mp ndB1).2.1).1
      have in1 : ∀ b ∈ B1, b ∈ fp i := fun b z => by rw [k2]; exact List.mem_append_right _ (List.mem_append_left _ z)
      have in2 : ∀ b ∈ B2, b ∈ B1 := fun b z => by rw [l2]; exact List.mem_append_right _ (List.mem_append_left _ z)
      obtain ⟨haB2, B3, q3, _, _⟩ := ht B2 l3 ndB2 fun b hb z => hA b hb ⟨i, in1 b (in2 b z)⟩
      have o1 : ∀ b, b ∈ pre1 ∨ b ∈ post1 → b ≠ a := fun b z e => by
        subst e
        rcases z with z | z
        · exact (List.nodup_append.mp nd1).2.2 b z b (List.mem_append_left _ (in2 b haB2)) rfl
        · exact (List.nodup_append.mp (List.nodup_append.mp nd1).2.1).2.2 b (in2 b haB2) b z rfl
      rw [l2] at ndB1
      have o2 : ∀ b, b ∈ pre2 ∨ b ∈ post2 → b ≠ a := fun b z e => by
        subst e
        rcases z with z | z
        · exact (List.nodup_append.mp ndB1).2.2 b z b (List.mem_append_left _ haB2) rfl
        · exact (List.nodup_append.mp (List.nodup_append.mp ndB1).2.1).2.2 b haB2 b z rfl
      have m1 : ∀ b, b ∈ pre1 ∨ b ∈ post1 → b ∈ fp i := fun b z => by
        rw [k2]
        rcases z with z | z
        · exact List.mem_append_left _ z
        · exact List.mem_append_right _ (List.mem_append_right _ z)
      have m2 : ∀ b, b ∈ pre2 ∨ b ∈ post2 → b ∈ fp i := fun b z => in1 b (by
        rw [l2]
        rcases z with z | z
        · exact List.mem_append_left _ z
        · exact List.mem_append_right _ (List.mem_append_right _ z))
      obtain ⟨n1, _⟩ := l4 F (upd H a o) t'' B3 (Same.refl _) (fun b z => ⟨upd_ne (o2 b z), hfree b (m2 b z)⟩) q3
      obtain ⟨_, n2⟩ := k4 F (upd H a o) _ _ (Same.refl _) (fun b z => ⟨upd_ne (o1 b z), hfree b (m1 b z)⟩) n1
      exact ⟨_, u, v1, by rw [put_app c1]; exact put_at c1, hu, c3, n2⟩
    · rw [List.getElem?_set_ne hk] at h2
      obtain ⟨tp, u1, v1, c1, c2, c3, c4⟩ := E.al j k pa tt h1 h2
      obtain ⟨u', e, qk⟩ := E.sl k _ h2
      rw [c2] at e; cases e
      exact ⟨tp, u1, v1, c1, c2, c3, path_stays qk c1 c4 fun b hb => upd_ne (neJ k (Ne.symm hk) b hb)⟩
  refine ⟨fset fp i (pre ++ (B' ++ post)), ⟨⟨⟨?_, by rw [List.length_set]; exact E.len, fun j s hs => ?_, fun j hj => ?_, fun j => ?_, fun j l b h1 h2 => ?_, E.tb.upd (E.ntb ⟨i, haO⟩), alK⟩, s1.st.fr, s1.st.nf, fun b hb => ?_, fun b ob hb hn nt => ?_, fun b hb => ?_, fun j mj tj hj hmj => ?_, fun j tj hj => ?_⟩, fun j mj tj hj => ?_, fun j hj => ?_⟩, ow⟩
  · intro b ob e
    rw [upd_ne fun z => by subst z; rw [hfree b haO] at e; cases e]
    exact E.sub b ob e
  · by_cases hji : i = j
    · subst hji
      rw [List.getElem?_set_self hil] at hs
      cases hs
      unfold fset
      rw [if_pos rfl]
      exact ⟨u, hu, qn⟩
    · rw [List.getElem?_set_ne hji] at hs
      unfold fset
      rw [if_neg (Ne.symm hji)]
      have qj := E.sl j s hs
      cases s with
      | no => trivial
      | al _ _ => trivial
      | val d => exact qj
      | own mj tj =>
        obtain ⟨w, e1, e2⟩ := qj
        exact ⟨w, e1, e2.move (Same.refl _) fun b hb => ⟨upd_ne (neJ j (Ne.symm hji) b hb), (e2.mem b hb).2⟩⟩
  · unfold fset
    by_cases hji : j = i
    · subst hji
      exact absurd (List.getElem?_set_self hil) (hj m _)
    · rw [if_neg hji]
      refine E.nil j fun mj tj z => hj mj tj ?_
      rw [List.getElem?_set_ne (Ne.symm hji)]
      exact z
  · unfold fset
    split
    · exact hndn
    · exact E.nd j
  · unfold fset at h1 h2
    split at h1
    · split at h2
      · omega
      · rename_i h3 h4
        rcases mem' b h1 with z | z
        · exact absurd (E.ap i l b z h2).symm h4
        · exact absurd ⟨l, h2⟩ (hA b z)
    · split at h2
      · rename_i h3 h4
        rcases mem' b h2 with z | z
        · exact absurd (E.ap j i b h1 z) h3
        · exact absurd ⟨j, h1⟩ (hA b z)
      · exact E.ap j l b h1 h2
  · by_cases e : b = a
    · subst e; rw [upd_same] at hb; cases hb
    · rw [upd_ne e] at hb; exact s1.st.dom b hb
  · have e : b ≠ a := fun z => by
      subst z
      rcases s1.st.own b ⟨i, haO⟩ with w | w
      · exact hn w
      · rw [hb] at w; cases w
    rw [upd_ne e]
    exact s1.st.frame b ob hb hn nt
  · rcases ow b hb with z | z
    · exact s1.st.own b z
    · exact (hw b z).symm
  · obtain ⟨_, m1, t1, h1, k1⟩ := s1.st.pin j mj tj hj hmj
    by_cases hji : i = j
    · subst hji
      rw [hi] at h1; cases h1
      exact ⟨rfl, _, _, List.getElem?_set_self hil, k1⟩
    · exact ⟨rfl, m1, t1, by rw [List.getElem?_set_ne hji]; exact h1, k1⟩
  · obtain ⟨_, h1, h2, h3⟩ := s1.st.lock j tj hj
    have hji : i ≠ j := fun z => by subst z; rw [hi] at h1; cases h1; exact hm.1 rfl
    refine ⟨rfl, by rw [List.getElem?_set_ne hji]; exact h1, ?_, fun b hb => ?_⟩
    · unfold fset; rw [if_neg (Ne.symm hji)]; exact h2
    · rw [upd_ne (neJ j (Ne.symm hji) b (by rw [h2]; exact hb))]; exact h3 b hb
  · obtain ⟨t1, h1⟩ := s1.ko j mj tj hj
    by_cases hji : i = j
    · subst hji
      rw [hi] at h1; cases h1
      exact ⟨_, List.getElem?_set_self hil⟩
    · exact ⟨t1, by rw [List.getElem?_set_ne hji]; exact h1⟩
  · have hji : i ≠ j := fun z => hj (List.mem_append_right _ (by simp [z]))
    obtain ⟨h1, h2, h3⟩ := s1.un j fun z => hj (List.mem_append_left _ z)
    refine ⟨by rw [List.getElem?_set_ne hji]; exact h1, ?_, fun b hb => ?_⟩
    · unfold fset; rw [if_neg (Ne.symm hji)]; exact h2
    · rw [upd_ne (neJ j (Ne.symm hji) b (by rw [h2]; exact hb))]; exact h3 b hb

noncomputable def rlP (K : Fg) : Rl K (Nat × List Nat) V := ⟨fun _ _ _ H' _ σ ρ' v r => ∃ u m t t', sg σ r.1 = some u ∧ ρ'[r.1]? = some (Sl.own m t) ∧ t.at r.2 = some t' ∧ pathV H' u r.2 = some v, fun _ h => h⟩
noncomputable def VP (X : Cx) (T : List Nat) (W : WV) (e : Expr) (f : M (Nat × List Nat)) : Prop := PE X e (fun σ H Q => TVg T W (rlP X.K) f σ H Q)
noncomputable def pVar (i : Nat) : M (Nat × List Nat) := fun ρ => match ρ[i]? with
  | some (.own _ _) => some (.ok (i, []) ρ)
  | _ => none
noncomputable def treeAt (ρ : Rho) (r : Nat × List Nat) : Option Tr := match ρ[r.1]? with
  | some (.own _ t) => t.at r.2
  | _ => none
section
variable {X : Cx} {T T1 T2 : List Nat} {W : WV} {fa fb : M Rv} {fp1 : M (Nat × List Nat)} {a b e : Expr} {pos : Pos}
theorem vp_var (i : Nat) {x : Str} {pos : Pos} (hN : X.N[i]? = some x := by rfl) (hv : Vis X.env.scope x := by first | exact Or.inl rfl | exact Or.inr (Or.inl rfl) | exact Or.inr (Or.inr rfl)) (hd : (x == ("__debug__" : Str)) = false := by decide)
    (hcd : (x == ("__classdict__" : Str)) = false := by decide) : VP X [] W (.Name x pos) (pVar i) := by
  refine pe_imp (pe_var hN hv hd hcd) fun σ H Q ⟨F, ρ, fp, o, E, e, P⟩ => ?_
  unfold pVar at e
  split at e
  · rename_i m t h
    cases ok_inj e
    obtain ⟨u, hu, q⟩ := E.sl i _ h
    exact ⟨u, sg_some.mp hu, P u H F fp (.refl E) ⟨u, m, t, t, hu, h, rfl, rfl⟩⟩
  · cases e
theorem place_step {K : Fg} {F H F1 H1 : Hp} {σ : Sg} {ρ ρ1 : Rho} {fp fp1 : FP} {v : V} {r : Nat × List Nat} (E : EnvOk K F H σ ρ fp) (s : EStep K T F H σ ρ fp F1 H1 ρ1 fp1) (hT : r.1 ∉ T)
    (h : ∃ u m t t', sg σ r.1 = some u ∧ ρ[r.1]? = some (Sl.own m t) ∧ t.at r.2 = some t' ∧ pathV H u r.2 = some v) : ∃ u m t t', sg σ r.1 = some u ∧ ρ1[r.1]? = some (Sl.own m t) ∧ t.at r.2 = some t' ∧ pathV H1 u r.2 = some v := by
  obtain ⟨u, m, t, t', h1, h2, h3, h4⟩ := h
  obtain ⟨a1, a2, a3⟩ := s.un r.1 hT
  obtain ⟨u', e1, q⟩ := E.sl r.1 _ h2
  rw [h1] at e1; cases e1
  exact ⟨u, m, t, t', h1, by rw [a1]; exact h2, h3, path_stays q h3 h4 a3⟩
theorem place_get {K : Fg} {F H : Hp} {σ : Sg} {ρ : Rho} {fp : FP} {v : V} {r : Nat × List Nat} {t0 : Tr} (E : EnvOk K F H σ ρ fp) (h : ∃ u m t t', sg σ r.1 = some u ∧ ρ[r.1]? = some (Sl.own m t) ∧ t.at r.2 = some t' ∧ pathV H u r.2 = some v) (ht : treeAt ρ r = some t0) :
    ∃ B, TrOk K F H v t0 B ∧ ∀ b ∈ B, b ∈ fp r.1 := by
  obtain ⟨u, m, t, t', h1, h2, h3, h4⟩ := h
  unfold treeAt at ht
  rw [h2] at ht
  simp only [h3] at ht
  cases ht
  obtain ⟨u', e1, q⟩ := E.sl r.1 _ h2
  rw [h1] at e1; cases e1
  obtain ⟨v', pre, B, post, g1, g2, g3, g4⟩ := focus q h3
  rw [h4] at g1; cases g1
  exact ⟨B, g3, fun b z => by rw [g2]; exact List.mem_append_right _ (List.mem_append_left _ z)⟩
noncomputable def cLeaf (f : M (Nat × List Nat)) : M Rv := bnd f fun r => fun ρ => match treeAt ρ r with
  | some (.dat d) => some (.ok (.d d) ρ)
  | _ => none
noncomputable def pIx (T2 : List Nat) (f : M (Nat × List Nat)) (g : M Rv) : M (Nat × List Nat) := bnd f fun r => bnd g fun y => fun ρ => if T2.contains r.1 then none else match treeAt ρ r, y with
  | some (.lst ts), .d (.int n) => (match ixN ts.length n with
    | some j => some (.ok (r.1, r.2 ++ [j]) ρ)
    | none => none)
  | some (.tup ts), .d (.int n) => (match ixN ts.length n with
    | some j => some (.ok (r.1, r.2 ++ [j]) ρ)
    | none => none)
  | _, _ => none
theorem ixN_lt {m : Nat} {n : Int} {j : Nat} (h : ixN m n = some j) : j < m := by
  unfold ixN at h
  split at h
  · split at h
    · cases h; omega
    · cases h
  · split at h
    · cases h; omega
    · cases h
noncomputable def modeOk (ρ : Rho) (i : Nat) : Bool := match ρ[i]? with
  | some (.own .lock _) => false
  | some (.own (.bor _) _) => false
  | some (.own _ _) => true
  | _ => false
noncomputable def putAt (ρ : Rho) (r : Nat × List Nat) (t' : Tr) : Rho := match ρ[r.1]? with
  | some (.own m t) => ρ.set r.1 (.own m (t.put r.2 t'))
  | _ => ρ
noncomputable def app1 (T2 : List Nat) (r : Nat × List Nat) (tn : Tr) : MS := fun ρ => if T2.contains r.1 || !modeOk ρ r.1 then none else match treeAt ρ r with
  | some (.lst ts) => if small (ts.length + 1) then some (.nx (putAt ρ r (.lst (ts ++ [tn])))) else none
  | _ => none
noncomputable def isLst : Option Tr → Bool
  | some (.lst _) => true
  | _ => false
noncomputable def sApp (T2 : List Nat) (f : M (Nat × List Nat)) (g : M Tr) : MS := sE f fun r => fun ρ => if isLst (treeAt ρ r) then sE g (app1 T2 r) ρ else none
end
theorem mode_of {ρ : Rho} {i : Nat} {m : Md} {t : Tr} {r : List Nat} (h : modeOk ρ i = true) (e : ρ[i]? = some (.own m t)) : m.wr r := by
  unfold modeOk at h
  rw [e] at h
  cases m with
  | lock => cases h
  | bor _ => cases h
  | free => exact ⟨(fun z => nomatch z), (fun p z => nomatch z)⟩
  | pin => exact ⟨(fun z => nomatch z), (fun p z => nomatch z)⟩
theorem touch_of {T2 : List Nat} {i : Nat} {ρ : Rho} (h : ¬ (T2.contains i || !modeOk ρ i) = true) : i ∉ T2 ∧ modeOk ρ i = true := by
  cases h1 : T2.contains i with
  | true => rw [h1] at h; exact absurd rfl h
  | false =>
    cases h2 : modeOk ρ i with
    | false => rw [h1, h2] at h; exact absurd rfl h
    | true => exact ⟨fun z => (by rw [List.contains_iff_mem.mpr z] at h1; cases h1), rfl⟩
section
variable {X : Cx} {T T1 T2 : List Nat} {W : WV} {fp1 : M (Nat × List Nat)} {fn : M Tr} {o e : Expr} {pos apos cpos : Pos}
variable {fa : M Rv}
end
end VL

end

section
set_option Elab.async false
set_option linter.all false
set_option maxRecDepth 100000
namespace VL
open PySem PySem.Spec PyProof.Rows L2

section
variable {X : Cx} {T T1 T2 T3 : List Nat} {W : WV} {fp1 : M (Nat × List Nat)} {fa fb : M Rv} {o i e : Expr} {pos tpos : Pos}
noncomputable def setIx1 (T2 : List Nat) (d : PyData) (r : Nat × List Nat) (y : Rv) : MS := fun ρ => if T2.contains r.1 || !modeOk ρ r.1 then none else match treeAt ρ r, y with
  | some (.lst ts), .d (.int n) => (match ixN ts.length n with
    | some j => some (.nx (putAt ρ r (.lst (ts.set j (.dat d)))))
    | none => none)
  | _, _ => none
noncomputable def sSetIx (T2 : List Nat) (fe : M Rv) (f : M (Nat × List Nat)) (fi : M Rv) : MS := sE fe fun x => match x with
  | .d d => sE f fun r => sE fi (setIx1 T2 d r)
  | .o _ => fun _ => none
theorem vs_setIx (he : VE X T1 W e fa) (ho : VP X T2 W o fp1) (hi : VE X T3 W i fb)
    (ha : ∀ v, assign (.Subscript o i tpos) X.env v = (do
      let ov ← holding [v] (eval o X.env)
      let iv ← holding [v, ov] (eval i X.env)
      standAt tpos
      holding [v, ov, iv] (setItem ov iv v)
      release [v, ov, iv] []) := by intro _; rfl)
    (hs : swapsWithSole [.Subscript o i tpos] e pos.line X.env = pure false := by rfl) (hw : swappedStores [.Subscript o i tpos] e X.env = pure none := by rfl)
    (h1 : (assignEach [.Subscript o i tpos] X.env).map (·.2) = [assign (.Subscript o i tpos) X.env] := by rfl) : VS X W (.Assign [.Subscript o i tpos] e pos) (sSetIx T3 fa fp1 fb) :=
  ps_imp (ps_asg he (pg_sub ho hi set_list ha) hs hw h1) fun D σ H ⟨F, ρ, fp, ou, E, q, P⟩ => by
    refine tv_st E q P fun x ρ1 v H1 F1 fp1 s1 r1 e1 P1 => ?_
    cases x with
    | o _ => cases e1
    | d d =>
      refine tv_st (T := T2) s1.env e1 P1 fun r ρ2 w H2 F2 fp2 s2 r2 e2 P2 => ?_
      refine tv_st (T := T3) s2.env e2 P2 fun y ρ3 z H3 F3 fp3 s3 r3 e3 _ => ?_
      unfold setIx1 at e3
      split at e3
      · cases e3
      · rename_i hc
        obtain ⟨hT, hc'⟩ := touch_of hc
        have pl := place_step s2.env s3 hT r2
        split at e3
        · rename_i ts n hts
          split at e3
          · rename_i j hj
            cases (Option.some.inj e3)
            cases r3
            have hd3 : Dq X.K F3 v d := dq_mono (s2.st.fr.trans s3.st.fr) _ _ r1
            obtain ⟨B, qB, hB⟩ := place_get s3.env pl hts
            obtain ⟨u, m, t, t', h1, h2, h3, h4⟩ := pl
            have ht' : t.at r.2 = some (.lst ts) := by
              unfold treeAt at hts
              rw [h2] at hts
              exact hts
            have hjl := ixN_lt hj
            cases qB with
            | @lst a vs _ B0 f1 f2 f3 =>
              have hlen := f3.len
              obtain ⟨fp', st, _⟩ := mut_step (A := []) (o := .lst (vs.set j v)) (t'' := .lst (ts.set j (.dat d))) s3 h2 (mode_of hc' h2) h1 ht' h4 (fun b hb => nomatch hb) List.nodup_nil (fun b hb => nomatch hb) fun B1 q1 nB1 _ => by
                cases q1 with
                | @lst a _ _ B2 g1 g2 g3 =>
                  rw [f1] at g1; cases g1
                  have nd := List.nodup_cons.mp nB1
                  obtain ⟨w1, pre, Bj, post, k1, k2, k3, k4⟩ := trs_repl (j := j) g3 (List.getElem?_eq_getElem hjl)
                  refine ⟨List.mem_cons_self, a :: (pre ++ post), ?_, ?_, fun b hb => ?_⟩
                  · refine .lst upd_same g2 ?_
                    have sub : ∀ b, b ∈ pre ∨ b ∈ post → b ∈ B2 := fun b hb => by
                      rw [k2]
                      rcases hb with z | z
                      · exact List.mem_append_left _ z
                      · exact List.mem_append_right _ (List.mem_append_right _ z)
                    have z := k4 F3 (upd H3 a (.lst (vs.set j v))) v (.dat d) [] (Same.refl _) (fun b hb => ⟨upd_ne fun z => by subst z; exact nd.1 (sub b hb), (g3.mem b (sub b hb)).2⟩) (.dat hd3)
                    exact z
                  · have nB2 := nd.2
                    rw [k2] at nB2
                    refine List.nodup_cons.mpr ⟨fun z => nd.1 ?_, ?_⟩
                    · rw [k2]
                      rcases List.mem_append.mp z with z | z
                      · exact List.mem_append_left _ z
                      · exact List.mem_append_right _ (List.mem_append_right _ z)
                    · exact List.nodup_append.mpr ⟨(List.nodup_append.mp nB2).1, (List.nodup_append.mp (List.nodup_append.mp nB2).2.1).2.1, fun b hb c hc => (List.nodup_append.mp nB2).2.2 b hb c (List.mem_append_right _ hc)⟩
                  · rcases List.mem_cons.mp hb with z | z
                    · exact .inl (by rw [z]; exact List.mem_cons_self)
                    · refine .inl (List.mem_cons_of_mem _ ?_)
                      rw [k2]
                      rcases List.mem_append.mp z with z | z
                      · exact List.mem_append_left _ z
                      · exact List.mem_append_right _ (List.mem_append_right _ z)
              have e : putAt ρ3 r (.lst (ts.set j (.dat d))) = ρ3.set r.1 (.own m (t.put r.2 (.lst (ts.set j (.dat d))))) := by
                unfold putAt
                rw [h2]
              refine ⟨a, vs, n, j, rfl, rfl, f1, by rw [hlen]; exact hj, P2 σ _ F3 fp' ?_⟩
              rw [e]
              exact st.st
          · cases e3
        · cases e3
end

section
variable {X : Cx} {T : List Nat} {W : WV} {fa : M Rv} {e : Expr} {pos : Pos}
noncomputable def tabD (tb : List (Str × PyData)) (x : Rv) : M Rv := fun ρ => match x with
  | .d (.str z) => (match tb.lookup z with
    | some d => some (.ok (.d d) ρ)
    | none => none)
  | _ => none
noncomputable def cTab (tb : List (Str × PyData)) (f : M Rv) : M Rv := bnd f (tabD tb)
theorem ve_tab {tb : List (Str × PyData)} {x : Str} {p : Addr} {px : Pos} (hg : Gl X x) (hm : X.mg x = some (.ref p)) (hk : ∀ z d, tb.lookup z = some d → ∃ v, KDct X.K X.w p z v ∧ ∀ F, Dq X.K F v d) (he : VE X T W e fa) (hs : PlainIx e := by intro _ _; rfl) (hdb : (x == ("__debug__" : Str)) = false := by decide) :
    VE X T W (.Subscript (.Name x px) e pos) (cTab tb fa) :=
  pe_imp (pe_ix ix_kdict (pe_glob (v := .ref p) hg hm rfl hdb) he hs) fun σ H Q ⟨F, ρ, fp, o, E, q, P⟩ => by
    refine tv_bnd E q P (fun i hi => hi) fun y ρ1 v H1 F1 fp1 s1 r1 e1 P1 => ?_
    unfold tabD at e1
    split at e1
    · rename_i z
      split at e1
      · rename_i d hd
        cases ok_inj e1
        cases r1
        obtain ⟨w, h1, h2⟩ := hk z d hd
        exact ⟨p, z, w, rfl, rfl, h1, P1 _ H1 F1 fp1 (.refl s1.env) (h2 F1)⟩
      · cases e1
    · cases e1
end
section
variable {X : Cx} {T1 T2 T3 : List Nat} {W : WV} {fp1 : M (Nat × List Nat)} {fa : M Rv} {fn : M Tr} {o e : Expr} {apos cpos pos : Pos}
end
theorem al_set {K : Fg} {F H : Hp} {σ : Sg} {ρ : Rho} {fp : FP} {i : Nat} {s : Sl} (E : EnvOk K F H σ ρ fp) (hi : i < ρ.length) (hp : plainSl s = true) : AlOk H σ (ρ.set i s) := E.al' (fun j k p h => by
    by_cases hji : i = j
    · subst hji
      rw [List.getElem?_set_self hi] at h
      cases h
      cases hp
    · rw [List.getElem?_set_ne hji] at h
      exact ⟨h, rfl⟩) fun k p t h => by
    by_cases hji : i = k
    · subst hji
      rw [List.getElem?_set_self hi] at h
      cases h
      cases hp
    · rw [List.getElem?_set_ne hji] at h
      exact ⟨h, rfl, fun _ _ => rfl⟩
section
variable {X : Cx} {W : WV} {pos pos' : Pos}
noncomputable def sRetV (i : Nat) : MS := fun ρ => match ρ[i]? with
  | some (.val d) => some (.rt (.dat d) ρ)
  | some (.own .free t) => some (.rt t (ρ.set i .no))
  | _ => none
theorem vs_retV (i : Nat) {x : Str} (hN : X.N[i]? = some x := by rfl) (hv : Vis X.env.scope x := by first | exact Or.inl rfl | exact Or.inr (Or.inl rfl) | exact Or.inr (Or.inr rfl)) (hd : (x == ("__debug__" : Str)) = false := by decide)
    (hcd : (x == ("__classdict__" : Str)) = false := by decide) : VS X W (.Return (some (.Name x pos')) pos) (sRetV i) :=
  ps_imp (ps_ret (pe_var hN hv hd hcd)) fun D σ H ⟨F, ρ, fp, o, E, e, P⟩ => by
    unfold sRetV at e
    split at e
    · rename_i d h
      cases (Option.some.inj e)
      obtain ⟨u, hu, q⟩ := E.sl i _ h
      exact ⟨u, sg_some.mp hu, P u [] σ H F fp (.refl E) ⟨.dat q, List.nodup_nil, (fun b hb => nomatch hb), (fun b hb => nomatch hb)⟩⟩
    · rename_i t h
      cases (Option.some.inj e)
      obtain ⟨u, hu, q⟩ := E.sl i _ h
      have hi : i < ρ.length := (List.getElem?_eq_some_iff.mp h).1
      have alN : AlOk H σ (ρ.set i .no) := al_set E hi rfl
      refine ⟨u, sg_some.mp hu, P u (fp i) σ H F (fset fp i []) ⟨⟨E.sub, by rw [List.length_set]; exact E.len, fun j s hs => ?_, fun j hj => ?_, fun j => ?_, fun j l b h1 h2 => ?_, E.tb, alN⟩, Same.refl _, fun _ h h' => absurd h h', fun _ h => h, fun _ _ h _ _ => h, fun b hb => ?_, fun j mj tj hj hmj => ?_, fun j tj hj => ?_⟩ ⟨q, E.nd i, fun b hb => .inr ⟨i, hb⟩, fun b hb z => ?_⟩⟩
      · unfold fset
        by_cases hji : i = j
        · subst hji
          rw [List.getElem?_set_self hi] at hs
          cases hs
          trivial
        · rw [List.getElem?_set_ne hji] at hs
          rw [if_neg (Ne.symm hji)]
          exact E.sl j s hs
      · unfold fset
        by_cases hji : j = i
        · rw [if_pos hji]
        · rw [if_neg hji]
          refine E.nil j fun m t z => hj m t ?_
          rw [List.getElem?_set_ne (Ne.symm hji)]
          exact z
      · unfold fset
        split
        · exact List.nodup_nil
        · exact E.nd j
      · unfold fset at h1 h2
        split at h1
        · cases h1
        · split at h2
          · cases h2
          · exact E.ap j l b h1 h2
      · rcases hb.fset with z | z
        · cases z
        · exact .inl z
      · have hji : i ≠ j := fun z => by subst z; rw [h] at hj; cases hj; cases hmj
        exact ⟨rfl, mj, tj, by rw [List.getElem?_set_ne hji]; exact hj, hmj⟩
      · have hji : i ≠ j := fun z => by subst z; rw [h] at hj; cases hj
        refine ⟨rfl, by rw [List.getElem?_set_ne hji]; exact hj, ?_, fun _ _ => rfl⟩
        unfold fset
        rw [if_neg (Ne.symm hji)]
      · obtain ⟨j, hj⟩ := z
        unfold fset at hj
        split at hj
        · cases hj
        · rename_i hne
          exact hne (E.ap j i b hj hb)
    · cases e
end
noncomputable def frzSl (ρ : Rho) (i : Nat) : Option Rho := match ρ[i]? with
  | some (.own .free t) => (t.toD).map fun d => ρ.set i (.val d)
  | some (.val _) => some ρ
  | _ => none
theorem hu65 {k : Nat} {A : Around} (r : Room k A) : A.units + 65 < cLine := by have := r.un; omega
theorem relV_abs {u : Value} {v : V} (h : absV u = some v) : RelV v u := by
  cases u <;> simp only [absV] at h <;> first | (cases h; rfl) | (cases h; exact ⟨_, rfl⟩) | cases h
theorem tab_ok {K : Fg} {w : World} {p : Addr} : ∀ {tb : List (Str × PyData)} (vs : List V), Paired (fun (q : Str × PyData) v => KDct K w p q.1 v ∧ ∀ F, Dq K F v q.2) tb vs → ∀ z d, tb.lookup z = some d → ∃ v, KDct K w p z v ∧ ∀ F, Dq K F v d
  | _, _, .nil, z, d, h => by cases h
  | (k, d0) :: tb, _, .cons q r, z, d, h => by
    rw [List.lookup_cons] at h
    split at h
    · rename_i e
      cases h
      have : z = k := by simpa using e
      subst this
      exact ⟨_, q⟩
    · exact tab_ok _ r z d h
theorem vals_abs : ∀ {us : List Value} {vs : List V}, us.map absV = vs.map some → Vals vs us
  | [], [], _ => .nil
  | [], _ :: _, h => by cases h
  | _ :: _, [], h => by cases h
  | u :: us, v :: vs, h => by
    simp only [List.map_cons, List.cons.injEq] at h
    exact .cons (relV_abs h.1) (vals_abs h.2)
theorem tup_size {its : Array Value} {vs : List V} (h : its.toList.map absV = vs.map some) (hz : vs.length ≤ sizeLine) : its.size ≤ sizeLine := by
  have := congrArg List.length h
  simp only [List.length_map, Array.length_toList] at this
  omega
theorem tup_vals {its : Array Value} {vs : List V} (h : its.toList.map absV = vs.map some) : Vals vs its.toList := vals_abs h
noncomputable def scrD (ns : List Int) : PyData := .dict (ns.map fun i => (.int i, .none))
noncomputable def noTb (H : Hp) : Hp := fun b => match H b with
  | some (.tbl _) => none
  | x => x
theorem noTb_sub {H : Hp} : Same (noTb H) H := fun b o e => by
  unfold noTb at e
  split at e
  · cases e
  · exact e
theorem noTb_of {H : Hp} {b : Addr} {o : HO} (h : H b = some o) (n : ∀ ps, o ≠ .tbl ps) : noTb H b = some o := by
  unfold noTb
  rw [h]
  split
  · rename_i ps e
    exact absurd (Option.some.inj e) (n ps)
  · rfl
theorem noTb_seq {K : Fg} {H : Hp} {a : Addr} {xs : List V} (h : SqL K H a xs) : SqL K (noTb H) a xs := by
  rcases h with (h | ⟨o, h⟩) | h
  · exact .inl (.inl (noTb_of h fun _ z => nomatch z))
  · exact .inl (.inr ⟨o, noTb_of h fun _ z => nomatch z⟩)
  · exact .inr h
noncomputable def Tb0 (K : Fg) (H : Hp) : Prop := ∀ c P, PySem.W.tabIn K "price_meant" = some (c, P) → H P = some (.tbl #[])
theorem tb0_ok {K : Fg} {H : Hp} (h : Tb0 K H) : TbOk K (noTb H) H := fun c P e => by
  have q := h c P e
  refine ⟨?_, #[], q, True.intro, fun pos cv z => ?_⟩
  · unfold noTb
    rw [q]
  · simp [codeAmong] at z
noncomputable def spLaw (K : Fg) : Sp := fun vs H Q _ => ∃ (a : Addr) (ns : List Int), vs = [.ref a] ∧ SqL K H a (ns.map V.int) ∧ ns.length ≤ 63 ∧ Tb0 K H ∧ ∀ H', Q (.bl true) H'
theorem law_imp {K : Fg} {Wx : WX0} {F : Fn} (hF : ∀ ns : List Int, ns.length ≤ 63 → ∃ outs, F [.val (scrD ns)] = some (.ret (.dat (.bool true)), outs)) {vs : List V} {H : Hp} {Q : VK} {E : XK} (h : spLaw K vs H Q E) : spV K Wx 1 F vs H Q E := by
  obtain ⟨a, ns, rfl, hS, hl, h0, k⟩ := h
  obtain ⟨outs, e⟩ := hF ns hl
  refine ⟨rfl, noTb H, [.val (scrD ns)], fun _ => [], _, outs, ⟨noTb_sub, rfl, fun i s hs => ?_, fun _ _ => rfl, fun _ => List.nodup_nil, (fun _ _ _ h => nomatch h), tb0_ok h0, fun j i p t h _ => by
    match j, h with
    | 0, h => cases h
    | j + 1, h => simp at h⟩, e, fun v A H' F' fp' st n => ?_⟩
  · cases i with
    | zero =>
      cases hs
      exact ⟨.ref a, rfl, .scr (noTb_seq hS)⟩
    | succ i => simp at hs
  · generalize hA : A = A' at n
    have q := n.ok
    cases q with
    | dat q =>
      cases q
      exact k H'
noncomputable def TbB (K : Fg) (base : Heap) (mg : Str → Option Value) : Prop := ∀ c P, PySem.W.tabIn K "price_meant" = some (c, P) → LamX.TabB base mg c P
noncomputable def csOf (K : Fg) : List (Addr × Addr) := match PySem.W.tabIn K "price_meant" with
  | some p => [p]
  | none => []
noncomputable def tabChk (q : Program) (K : Fg) : Bool := match PySem.W.tabIn K "price_meant" with
  | some p => (K.lookup p.2).isNone && ((recsOf q).find? fun e : DefRec => e.name == ("price_meant" : Str)).isSome
  | none => true
theorem mem_cs {K : Fg} {p : Addr × Addr} : p ∈ csOf K ↔ PySem.W.tabIn K "price_meant" = some p := by
  unfold csOf
  split
  · rename_i q e
    simp [eq_comm, e]
  · rename_i e
    simp [e]
theorem walk {l : PySem.W.OpenLaw} {q : Program} {loose : List Str} {XP : (Str → Option Value) → Heap → Prop} {YP : World → Heap → Prop} {d : DefRec} {K : Params → PySem.W.Frag} {k : Nat} (hn : l.most = some 63) (hdf : d.params.defaults = []) (hk : Room k callerA)
    (hY : ∀ (w : World) (h : Heap), YP w h → (K w.params).In h) (hT : ∀ w : World, tabChk q (K w.params) = true)
    (F : ∀ (w : World) (mg : Str → Option Value) (fa : Addr) (h : Heap), (K w.params).In h → h.Ns mainGlobals mg → mg d.name = some (.ref fa) →
      ∃ fd : FuncData, (∀ (s : Shared) (u : Value), BindsTo s fd ⟨[u], []⟩ [("script", u)]) ∧ ∀ base : Heap, (K w.params).In base → base.Ns mainGlobals mg → TbB (K w.params) base mg → FnOk l.prog w (K w.params) mg base CX0 k fa fd ["script"] (spLaw (K w.params))) :
    PySem.W.WalkO q loose XP YP l.row.toRowW d [] (fun f vs => PySem.call f vs) := by
  refine Att.attach_callB hn hdf fun w s₀ s₁ mg mb fa o pm cd doc a vs ns G Y ho hd hcd hmg hobj hints hlen hbits hg => ?_
  have KX := hY w _ Y
  obtain ⟨fd, hb, hF⟩ := F w mg fa _ KX G.T.g hmg
  have tk : ∀ p ∈ csOf (K w.params), (K w.params).lookup p.2 = none ∧ PySem.W.CodeHd s₁.heap p.1 p.2 ∧ s₁.heap.get? p.2 = some { cls := .none, data := .fields #[] } := fun p hp => by
    have e := mem_cs.mp hp
    have c := hT w
    unfold tabChk at c
    rw [e] at c
    simp only [Bool.and_eq_true, Option.isNone_iff_eq_none] at c
    obtain ⟨dd, hd⟩ := Option.isSome_iff_exists.mp c.2
    have z := PySem.W.tab_of (x := "price_meant") (c := p.1) (P := p.2) G.T KX hd e
    exact ⟨c.1, z.1, z.2⟩
  refine LamX.law_callTs (cs := csOf (K w.params)) KX G.T.g G.T.b G.T.builtins G.T.nolimit hg (fun p hp => (tk p hp).2.2) (fun p hp => (tk p hp).1) (fun p hp => (tk p hp).2.1) G.T.bmain hobj hints (Nat.le_trans hlen (by decide)) hk
    (fun base h1 h2 h3 => hF base h1 h2 fun c P e => h3 (c, P) (mem_cs.mpr e)) hb (fun H hH hS => ⟨a, ns, rfl, hS, hlen, fun c P e => hH (c, P) (mem_cs.mpr e), fun _ => rfl⟩) fun _ _ _ z => z
noncomputable def KTupV (K : Fg) (t : Addr) (ds : List PyData) : Prop := ∃ vs, (∃ (o : Obj) (its : Array Value) (n : Nat), K.lookup t = some o ∧ o.cls = .type "tuple" ∧ o.data = .seq its n ∧ its.size ≤ sizeLine ∧ Vals vs its.toList) ∧ ∀ F : Hp, DqAll K F vs ds
theorem KTupV.k {K : Fg} {t : Addr} {ds : List PyData} (h : KTupV K t ds) : KTup K t ds := by
  obtain ⟨vs, h1, h2⟩ := h
  exact ⟨vs, fun F => .inr h1, h2⟩
end VL

end

section
set_option Elab.async false
set_option linter.all false
set_option maxRecDepth 100000
namespace VL
open PySem PySem.Spec PyProof.Rows L2 HT
section
variable {prog : Program} {w : World} {A : Around} {E : Value → Shared → Prop} {s : Shared}
end
section
variable {X : Cx} {T : List Nat} {W : WV} {a : Expr} {fa : M Rv} {pos p2 p3 p4 : Pos}
noncomputable def rev1 (x : Rv) : M Rv := fun ρ => match x with
  | .d (.tuple ds) => some (.ok (.d (.tuple ds.reverse)) ρ)
  | _ => none
noncomputable def cRev (f : M Rv) : M Rv := bnd f rev1
end
end VL

end

section
set_option Elab.async false
set_option linter.all false
set_option maxRecDepth 100000
namespace VL
open PySem PySem.Spec PyProof.Rows L2
section
variable {X : Cx} {T T1 T2 : List Nat} {W : WV} {K : Fg}
noncomputable def cCnt1 (ds : List PyData) (y : Rv) : M Rv := fun ρ => match y with
  | .d e => if flatD e && ds.all flatD then some (.ok (.d (.int (ds.countP (fun z => PyData.eqv z e) : Nat))) ρ) else none
  | .o _ => none
noncomputable def cCnt (fo fe : M Rv) : M Rv := bnd fo fun x => match x with
  | .d (.list ds) => bnd fe (cCnt1 ds)
  | _ => fun _ => none
variable {o e : Expr} {fo fe : M Rv} {apos cpos : Pos}
noncomputable def intsD : List PyData → Option (List Int)
  | [] => some []
  | .int i :: ds => (intsD ds).map (i :: ·)
  | _ :: _ => none
noncomputable def sumD : List PyData → Option PyData
  | [.list ds] => (intsD ds).map fun ns => .int ns.sum
  | _ => none
noncomputable def maxI : Int → List Int → Int
  | m, [] => m
  | m, i :: is => maxI (if i > m then i else m) is
noncomputable def minI : Int → List Int → Int
  | m, [] => m
  | m, i :: is => minI (if i < m then i else m) is
noncomputable def maxD : List PyData → Option PyData
  | [.list ds] => (match intsD ds with
    | some (n :: ns) => some (.int (maxI n ns))
    | _ => none)
  | _ => none
end
end VL

end

section
set_option Elab.async false
set_option linter.all false
set_option maxRecDepth 100000
namespace VL
open PySem PySem.Spec PyProof.Rows L2
noncomputable def keyD : PyData → Option Key
  | .int i => some (.inl i)
  | .str z => some (.inr z)
  | _ => none
noncomputable def keysD : List PyData → Option (List Key)
  | [] => some []
  | d :: ds => match keyD d, keysD ds with
    | some k, some ks => some (k :: ks)
    | _, _ => none
noncomputable def keyT : PyData → Option (List Key)
  | .tuple ds => if kOk ds then none else keysD ds
  | _ => none
section
variable {K : Fg} {F : Hp}
end
noncomputable def getK {κ : Type} [DecidableEq κ] (kvs : List (κ × Tr)) (k : κ) : Option Tr := (kvs.find? fun kv => decide (kv.1 = k)).map (·.2)
noncomputable def lookP {κ : Type} [DecidableEq κ] (kvs : List (κ × PyData)) (k : κ) : Option PyData := (kvs.find? fun kv => decide (kv.1 = k)).map (·.2)
noncomputable def dictAt (t : Tr) (d : PyData) : Option (Option PyData) := match t with
  | .dk kvs => (match keyD d with
    | some k => (match getK kvs k with
      | none => some none
      | some (.dat e) => some (some e)
      | some _ => none)
    | none => none)
  | .dt kvs => (match keyT d with
    | some k => (match getK kvs k with
      | none => some none
      | some (.dat e) => some (some e)
      | some _ => none)
    | none => none)
  | .fk kvs => (match keyD d with
    | some k => some (lookP kvs k)
    | none => none)
  | .ft kvs => (match keyT d with
    | some k => some (lookP kvs k)
    | none => none)
  | .sd kvs => (match keyD d with
    | some k => some (lookP kvs k)
    | none => none)
  | _ => none
section
variable {X : Cx} {T T1 T2 T3 : List Nat} {W : WV} {fk fx : M Rv} {fp1 : M (Nat × List Nat)} {i o e : Expr} {pos : Pos}
noncomputable def dIn1 (neg : Bool) (y : Rv) (r : Nat × List Nat) : M Bool := fun ρ => match y, treeAt ρ r with
  | .d d, some t => (match dictAt t d with
    | some z => some (.ok (if neg then !z.isSome else z.isSome) ρ)
    | none => none)
  | _, _ => none
noncomputable def cDIn (neg : Bool) (fk : M Rv) (f : M (Nat × List Nat)) : M Bool := bnd fk fun y => bnd f (dIn1 neg y)
noncomputable def dGet1 (T2 : List Nat) (r : Nat × List Nat) (y : Rv) : M Rv := fun ρ => if T2.contains r.1 then none else match y, treeAt ρ r with
  | .d d, some t => (match dictAt t d with
    | some (some z) => some (.ok (.d z) ρ)
    | _ => none)
  | _, _ => none
noncomputable def cDGet (T2 : List Nat) (f : M (Nat × List Nat)) (fk : M Rv) : M Rv := bnd f fun r => bnd fk (dGet1 T2 r)
noncomputable def isDk : Option Tr → Bool
  | some (.dk _) => true
  | some (.dt _) => true
  | _ => false
noncomputable def dGet2 (T2 : List Nat) (r : Nat × List Nat) (y x : Rv) : M Rv := fun ρ => if T2.contains r.1 then none else match y, x, treeAt ρ r with
  | .d d, .d u, some t => (match dictAt t d with
    | some z => some (.ok (.d (z.getD u)) ρ)
    | none => none)
  | _, _, _ => none
noncomputable def cDGet2 (T2 : List Nat) (f : M (Nat × List Nat)) (fk fx : M Rv) : M Rv := bnd f fun r => fun ρ => if isDk (treeAt ρ r) then (bnd fk fun y => bnd fx (dGet2 T2 r y)) ρ else none
noncomputable def nNew (t : Tr) : M Tr := ret t
end
section
variable {κ : Type} [DecidableEq κ]
noncomputable def dats : List (κ × Tr) → Option (List (κ × PyData))
  | [] => some []
  | (k, .dat d) :: ts => (dats ts).map ((k, d) :: ·)
  | _ :: _ => none
noncomputable def toT (ds : List (κ × PyData)) : List (κ × Tr) := ds.map fun p => (p.1, .dat p.2)
noncomputable def putP (ds : List (κ × PyData)) (k : κ) (d : PyData) : List (κ × PyData) :=
  if (ds.any fun kv => decide (kv.1 = k)) = true then ds.map (fun kv => if kv.1 = k then (kv.1, d) else kv) else ds ++ [(k, d)]
end
noncomputable def dPut1 (T2 : List Nat) (d : PyData) (r : Nat × List Nat) (y : Rv) : MS := fun ρ => if T2.contains r.1 || !modeOk ρ r.1 then none else match y, treeAt ρ r with
  | .d kd, some (.dk kvs) => (match keyD kd, dats kvs with
    | some k, some ds => if small (ds.length + 1) then some (.nx (putAt ρ r (.dk (toT (putP ds k d))))) else none
    | _, _ => none)
  | .d kd, some (.dt kvs) => (match keyT kd, dats kvs with
    | some k, some ds => if small (ds.length + 1) then some (.nx (putAt ρ r (.dt (toT (putP ds k d))))) else none
    | _, _ => none)
  | _, _ => none
noncomputable def sDPut (T2 : List Nat) (fe : M Rv) (f : M (Nat × List Nat)) (fk : M Rv) : MS := sE fe fun x => match x with
  | .d d => sE f fun r => sE fk (dPut1 T2 d r)
  | .o _ => fun _ => none
section
variable {X : Cx} {T1 T2 T3 T4 : List Nat} {W : WV} {fe fk : M Rv} {fp1 : M (Nat × List Nat)} {i o e : Expr} {pos pos' : Pos}
end
theorem hu1 {n : Nat} (h : n + 65 < cLine) : n + 1 < cLine := by omega
end VL

end

section
set_option Elab.async false
set_option linter.all false
set_option maxRecDepth 100000
namespace VL
open PySem PySem.Spec PyProof.Rows L2 PySem.W
section
variable {X : Cx} {K : Fg}
end
end VL

end

section
set_option Elab.async false
set_option linter.all false
set_option maxRecDepth 100000
namespace VL
open PySem PySem.Spec PyProof.Rows L2
noncomputable def ZSt (z TI TO i1 i2 l1 l2 : Addr) (xs ys : Array Value) (S : Addr) (i : Nat) (h : Heap) : Prop :=
  IsPair h TI (.ref i1) (.ref i2) ∧ h.IsListIter i1 l1 i ∧ h.IsListIter i2 l2 i ∧ h.IsList l1 xs ∧ h.IsList l2 ys ∧
    ((IsZip h z TI TO .none ∧ ∃ a b, IsPair h TO a b) ∨ ∃ T f oT, IsZipHeld h z TI TO T f ∧ h.get? T = some oT ∧ T ≠ z ∧ T ≠ i1 ∧ T ≠ i2 ∧ T ≠ S)
structure ZAp (z TI TO i1 i2 l1 l2 S : Addr) : Prop where
  sz : S ≠ z
  sTI : S ≠ TI
  sTO : S ≠ TO
  s1 : S ≠ i1
  s2 : S ≠ i2
  sl1 : S ≠ l1
  sl2 : S ≠ l2
theorem ZSt.frame {z TI TO i1 i2 l1 l2 S : Addr} {xs ys : Array Value} {i : Nat} {h h' : Heap} (D : ZAp z TI TO i1 i2 l1 l2 S) (st : ZSt z TI TO i1 i2 l1 l2 xs ys S i h) (k : ∀ b o, b ≠ S → h.get? b = some o → h'.get? b = some o) : ZSt z TI TO i1 i2 l1 l2 xs ys S i h' := by
  obtain ⟨a1, a2, a3, a4, a5, a6⟩ := st
  refine ⟨k _ _ D.sTI.symm a1, a2.at fun o e => k _ o D.s1.symm e, a3.at fun o e => k _ o D.s2.symm e, a4.at fun o e => k _ o D.sl1.symm e, a5.at fun o e => k _ o D.sl2.symm e, ?_⟩
  rcases a6 with ⟨hz, a, b, hTO⟩ | ⟨T, f, oT, hz, hT, r1, r2, r3, r4⟩
  · exact .inl ⟨k _ _ D.sz.symm hz, a, b, k _ _ D.sTO.symm hTO⟩
  · exact .inr ⟨T, f, oT, k _ _ D.sz.symm hz, k _ _ r4 hT, r1, r2, r3, r4⟩
section
variable {prog : Program} {w : World} {A : Around} {R : Result → Shared → Prop} {z TI TO i1 i2 l1 l2 S : Addr} {xs ys : Array Value}
variable {s : Shared} {E : Value → Shared → Prop}
end
section
variable {X : Cx}
end
end VL

end

section
set_option Elab.async false
set_option linter.all false
set_option maxRecDepth 100000
namespace VL
open PySem PySem.Spec PyProof.Rows L2
section
variable {X : Cx} {T T1 T2 T3 T4 T5 : List Nat} {W : WV} {K : Fg}
noncomputable def rRepR : R2 := fun x y H Q => ∃ l k xs, x = .ref l ∧ y = .int k ∧ Rd H l (.lst xs) ∧ -(2 ^ 63) ≤ k ∧ k < 2 ^ 63 ∧ xs.length * k.toNat ≤ sizeLine ∧
  ∀ p, H p = none → Q (.ref p) (upd H p (.lst (List.replicate k.toNat xs).flatten))
theorem op_repR : OpR X (binaryOp .Mult) rRepR := by
  intro pins s σ H x y v u Q I rx ry h
  obtain ⟨l, k, xs, rfl, rfl, hH, h1, h2, hz, q⟩ := h
  cases rx
  obtain ⟨t, rfl⟩ := ry
  obtain ⟨z, its, n, r, hl, e⟩ := lstR I hH
  have hlen : its.toArray.size * k.toNat ≤ sizeLine := by rw [List.size_toArray, ← hl]; exact hz
  have hcap : ¬ its.toArray.size * k.toNat > (2 ^ 63 - 1) / 8 := by
    have : (sizeLine : Nat) ≤ (2 ^ 63 - 1) / 8 := by decide
    omega
  have hfit : ¬ (!Builtin.List.listFitsIndex k) = true := by
    rw [fitsIndex_both h1 h2]
    exact Bool.false_ne_true
  have hlong : ¬ Builtin.List.listTooLong (its.toArray.size * k.toNat) = true := by
    rw [notLongL hlen]
    exact Bool.false_ne_true
  have hnew : List.foldl (fun x1 x2 => x1 ++ x2) #[] (List.replicate (if its.toArray.isEmpty = true then 0 else k.toNat) its.toArray) = (List.replicate k.toNat its).flatten.toArray := by
    have f0 : ∀ m : Nat, List.foldl (fun x1 x2 => x1 ++ x2) #[] (List.replicate m its.toArray) = (List.replicate m its).flatten.toArray := fun m => by
      have := foldl_rep its m []
      rw [List.nil_append] at this
      exact this
    rw [f0]
    cases its with
    | nil => simp
    | cons a r' => rw [if_neg (by simp)]
  refine wpAny_binaryOp_repeat_ref (T := "list") (U := "int") (by decide) ⟨_, e, rfl⟩ (fun s' => typeIs_int s' k t) noFill_list_mul F.fills_int_mul F.slot_int_rmul repeat_list F.slot_int_index.lookup
    (call_meets F.slot_int_rmul (typeIs_int s k t) F.entry_int_rmul (F.args_int_rmul_2 _ _) (int___rmul___int_list k t l its.toArray n)
      ⟨e, rfl, ⟨_, e, rfl⟩, call_meets F.slot_list_mul ⟨_, e, rfl⟩ F.entry_list_mul (F.args_list_mul_2 _ _) (AutoListH.list___mul___list_int_3 l its.toArray n k t hfit hcap hlong) ⟨e, ?_⟩⟩)
  rw [hnew]
  exact ⟨.ref _, _, I.lnew (t' := s.toks) (r.rep k.toNat) (by rw [PyProof.Rows.lm_len_rep_flat, Nat.mul_comm]; exact hz), rfl, q _ I.fresh⟩
noncomputable def repL (ds : List PyData) (k : Int) : List PyData := (List.replicate k.toNat ds).flatten
noncomputable def repOk (ds : List PyData) (k : Int) : Bool := decide (-(2 ^ 63) ≤ k ∧ k < 2 ^ 63) && small (ds.length * k.toNat)
noncomputable def repD : PyData → PyData → Option PyData
  | .list ds, .int k => if repOk ds k then some (.list (repL ds k)) else none
  | _, _ => none
theorem ok_repD : OpOk K rRepR repD := by
  intro F H x y dx dy z Q s hx hy e k
  unfold repD at e
  split at e
  · rename_i ds n
    split at e
    · rename_i hz
      cases e
      unfold repOk at hz
      rw [Bool.and_eq_true] at hz
      have hk := of_decide_eq_true hz.1
      obtain ⟨a, vs, rfl, h1, h2⟩ := hx.list s
      cases hy.int
      refine ⟨a, n, vs, rfl, rfl, h1, hk.1, hk.2, by rw [dqAll_len h2]; exact small_iff.mp hz.2, fun p np => ?_⟩
      exact k _ _ _ (.new _ s np) (.lst (.inl upd_same) (dqAll_mono (same_upd (s.free np)) _ _ (rep_all h2 n.toNat)))
    · cases e
  · cases e
variable {fa fb : M Rv} {a b : Expr} {pos : Pos}
theorem ve_rep (ha : VE X T1 W a fa) (hb : VE X T2 W b fb) : VE X (T1 ++ T2) W (.BinOp a .Mult b pos) (cBin repD fa fb) := ve_bin op_repR ok_repD ha hb
noncomputable def rep1 (x y : Rv) : M Tr := fun ρ => match derS ρ x, derS ρ y with
  | some (.list ds), some (.int k) => if repOk ds k then some (.ok (.lst ((repL ds k).map .dat)) ρ) else none
  | _, _ => none
noncomputable def nRep (fa fb : M Rv) : M Tr := bnd fa fun x => bnd fb fun y => rep1 x y
variable {fp1 : M (Nat × List Nat)} {fs : M (List Rv)} {o i e : Expr} {apos cpos : Pos}
variable {tpos : Pos} {fi fe : M Rv}
noncomputable def zipP (ds es : List PyData) : List PyData := (ds.zip es).map fun p => .tuple [p.1, p.2]
noncomputable def lzip1 (rs : List Rv) : M Rv := fun ρ => match rs with
  | [x, y] => (match derS ρ x, derS ρ y with
    | some (.list ds), some (.list es) => if ds.length = es.length then some (.ok (.d (.list (zipP ds es))) ρ) else none
    | _, _ => none)
  | _ => none
noncomputable def cListZip (fs : M (List Rv)) : M Rv := bnd fs lzip1
variable {e2 : Expr} {p p' pos' : Pos}
noncomputable def tupled : PyData → Bool
  | .tuple (_ :: _) => true
  | _ => false
noncomputable def untupled : PyData → Bool
  | .tuple _ => false
  | .none => false
  | _ => true
noncomputable def sortOk (ds : List PyData) : Bool := ds.all (fun d => ds.all (fun e => PySem.W.alike d e)) && (ds.all tupled || ds.all untupled) && ds.all (fun d => decide (d.depth ≤ 60)) && ds.all PyData.canLay0
noncomputable def sortL (ds : List PyData) : List PyData := ds.mergeSort (PySem.W.dataLe false id)
noncomputable def sortedD : List PyData → Option PyData
  | [.list ds] => if sortOk ds then some (.list (sortL ds)) else none
  | _ => none
end
end VL

end

section
set_option Elab.async false
set_option linter.all false
set_option maxRecDepth 100000
namespace VL
open PySem PySem.Spec PyProof.Rows L2
noncomputable def Kp (S : List Nat) (fp : FP) (H H' : Hp) : Prop := ∀ j ∈ S, ∀ c ∈ fp j, H' c = H c
section
variable {X : Cx} {T T1 T2 T3 : List Nat} {W : WV} {pos : Pos}
noncomputable def iOwn (i : Nat) : M (List PyData) := fun ρ => match ρ[i]? with
  | some (.own _ (.lst ts)) => (match flat ts with
    | some ds => some (.ok ds ρ)
    | none => none)
  | _ => none
end
section
variable {X : Cx} {T : List Nat} {W : WV} {K : Fg} {fs : M (List Rv)} {e e2 : Expr} {p p' pos pos' : Pos}
noncomputable def nzip1 (rs : List Rv) : M Tr := fun ρ => match rs with
  | [x, y] => (match derS ρ x, derS ρ y with
    | some (.list ds), some (.list es) => if ds.length = es.length then some (.ok (.lst ((zipP ds es).map .dat)) ρ) else none
    | _, _ => none)
  | _ => none
noncomputable def nListZip (fs : M (List Rv)) : M Tr := bnd fs nzip1
noncomputable def cat1 (x y : Rv) : M Tr := fun ρ => match derS ρ x, derS ρ y with
  | some (.list as), some (.list bs) => if small (as.length + bs.length) then some (.ok (.lst ((as ++ bs).map .dat)) ρ) else none
  | _, _ => none
noncomputable def nCat (fa fb : M Rv) : M Tr := bnd fa fun x => bnd fb fun y => cat1 x y
variable {T1 T2 : List Nat} {fa fb : M Rv} {a b : Expr}
end
end VL

end

section
set_option Elab.async false
set_option linter.all false
set_option maxRecDepth 100000
namespace VL
open PySem PySem.Spec PyProof.Rows L2
section
variable {X : Cx} {T T1 T2 T3 : List Nat} {W : WV} {K : Fg} {pos : Pos}
noncomputable def mkDT (x y : Rv) : M Tr := fun ρ => match x, y with
  | .d kd, .d d => (match keyT kd with
    | some ks => some (.ok (.dt [(ks, .dat d)]) ρ)
    | none => none)
  | _, _ => none
noncomputable def nDT (fk fv : M Rv) : M Tr := bnd fk fun x => bnd fv fun y => mkDT x y
variable {x : Str} {e : Expr} {fs : M (List Rv)} {apos cpos xpos : Pos}
noncomputable def call1T (f : Fn) (t : Tr) : M Tr := fun ρ => match f [.own .free t] with
  | some (.ret r, _) => some (.ok r ρ)
  | _ => none
noncomputable def nCallT (f : Fn) (g : M Tr) : M Tr := bnd g (call1T f)
variable {k : Nat} {f : Addr} {fd : FuncData} {ps : List Str} {F : Fn} {p : Pos} {fn : M Tr}
end
end VL

end

section
set_option Elab.async false
set_option linter.all false
set_option maxRecDepth 100000
namespace VL
open PySem PySem.Spec PyProof.Rows L2
section
variable {X : Cx} {T T1 T2 : List Nat} {W : WV} {K : Fg} {pos : Pos}
noncomputable def intKeys : List (Key × Tr) → Option (List Int)
  | [] => some []
  | (.inl i, _) :: r => (intKeys r).map (i :: ·)
  | _ :: _ => none
noncomputable def sortI (ks : List Int) : List Int := ks.mergeSort fun a b => decide (a ≤ b)
noncomputable def cSortDI (f : M (Nat × List Nat)) : M Rv := bnd f fun r => fun ρ => match treeAt ρ r with
  | some (.dk kvs) => (match intKeys kvs with
    | some ks => some (.ok (.d (.list ((sortI ks).map .int))) ρ)
    | none => none)
  | _ => none
variable {e : Expr} {x : Str} {p : Pos} {fp1 : M (Nat × List Nat)}
end
end VL

end

section
set_option Elab.async false
set_option linter.all false
set_option maxRecDepth 100000
namespace VL
open PySem PySem.Spec PyProof.Rows L2
theorem KT.upd {H : Hp} {d b : Addr} {o : HO} (h : KT (L2.upd H d o) b) (h1 : ∀ ks : List Key, o ≠ .tup (ks.map kV)) (h2 : ∀ ps, o ≠ .tbl ps) : KT H b := by
  unfold KT at h ⊢
  by_cases e : b = d
  · subst e
    rw [upd_same] at h
    rcases h with ⟨ks, h⟩ | ⟨ps, h⟩
    · exact absurd (Option.some.inj h) (h1 ks)
    · exact absurd (Option.some.inj h) (h2 ps)
  · rw [upd_ne e] at h
    exact h
section
variable {X : Cx} {T T1 T2 : List Nat} {W : WV} {K : Fg} {pos : Pos} {e : Expr}
end
end VL

end

section
set_option Elab.async false
set_option linter.all false
set_option maxRecDepth 100000
namespace VL
open PySem PySem.Spec PyProof.Rows L2
section
variable {X : Cx} {T T1 T2 : List Nat} {W : WV} {K : Fg} {pos : Pos}
noncomputable def nnone : PyData → Bool
  | .none => false
  | _ => true
noncomputable def maxOk (ds : List PyData) : Bool := ds.all (fun d => ds.all fun e => PySem.W.alike d e) && ds.all nnone && decide (PyData.depthAll ds ≤ 60) && ds.all PyData.canLay0
noncomputable def maxTD : List PyData → Option PyData
  | [.list (d :: ds)] => if maxOk (d :: ds) then some (PySem.W.maxD d ds) else none
  | _ => none
variable {fa fb : M Rv} {a b : Expr} {rest : List Expr}
end
end VL

end

section
set_option Elab.async false
set_option linter.all false
set_option maxRecDepth 100000
namespace VL
open PySem PySem.Spec PyProof.Rows L2
structure NewsOk (K : Fg) (H : Hp) (fp : FP) (F' H' : Hp) (fp' : FP) (vs : List V) (ts : List Tr) (A : List Addr) : Prop where
  ok : TrsOk K F' H' vs ts A
  nd : A.Nodup
  new : ∀ b ∈ A, H b = none ∨ Owns fp b
  out : ∀ b ∈ A, ¬ Owns fp' b
noncomputable def tNilM : M (List Tr) := ret []
noncomputable def tConsM (f : M Tr) (g : M (List Tr)) : M (List Tr) := bnd f fun x => bnd g fun xs => ret (x :: xs)
section
variable {X : Cx} {T T1 T2 T3 : List Nat} {W : WV} {K : Fg} {fn : M Tr} {fs : M (List Tr)} {e : Expr} {es : List Expr} {pos : Pos}
noncomputable def isNode : Tr → Bool
  | .tup _ => true
  | .lst _ => true
  | .dk _ => true
  | .dt _ => true
  | .ins _ _ => true
  | _ => false
noncomputable def nTupT (fs : M (List Tr)) : M Tr := bnd fs fun ts => fun ρ => if small ts.length && ts.any isNode then some (.ok (.tup ts) ρ) else none
noncomputable def nLstT (fs : M (List Tr)) : M Tr := bnd fs fun ts => fun ρ => if small ts.length then some (.ok (.lst ts) ρ) else none
theorem set_stepW {F H F1 H1 : Hp} {σ σ1 : Sg} {ρ ρ1 ρ2 : Rho} {fp fp1 : FP} {i : Nat} {v : V} {s : Sl} {A : List Addr} (s1 : Step K F H σ ρ fp F1 H1 σ1 ρ1 fp1) (hset : setSl ρ1 i s = some ρ2) (hs : SlOk K F1 H1 (some v) A s) (hn : A.Nodup)
    (ho : ∀ b ∈ A, ¬ Owns fp1 b) (ha : isOwn s = false → A = []) (hw : ∀ b ∈ A, H b = none ∨ Owns fp b) (hp : plainSl s = true := by rfl) : Step K F H σ ρ fp F1 H1 (σ1.set i (some v)) ρ2 (fset fp1 i A) := by
  obtain ⟨rfl, hi, np, nl⟩ := setSl_some hset
  refine ⟨set_env s1.env hi hs hn ho ha hp, s1.fr, s1.nf, s1.dom, s1.frame, fun b hb => ?_, fun j m t hj hm => ?_, fun j t hj => ?_⟩
  · rcases hb.fset with z | z
    · exact (hw b z).symm
    · exact s1.own b z
  · obtain ⟨e1, m', t', h1, k1⟩ := s1.pin j m t hj hm
    have hji : i ≠ j := fun z => by subst z; rw [np m' t' h1] at k1; cases k1
    exact ⟨by rw [sg_set_ne hji]; exact e1, m', t', by rw [List.getElem?_set_ne hji]; exact h1, k1⟩
  · obtain ⟨e1, h1, f1, g1⟩ := s1.lock j t hj
    have hji : i ≠ j := fun z => by subst z; exact nl t h1
    refine ⟨by rw [sg_set_ne hji]; exact e1, by rw [List.getElem?_set_ne hji]; exact h1, ?_, g1⟩
    unfold fset
    rw [if_neg (Ne.symm hji)]
    exact f1
end
end VL

end

section
set_option Elab.async false
set_option linter.all false
set_option maxRecDepth 100000
namespace VL
open PySem PySem.Spec PyProof.Rows L2
section
variable {P : Program} {w : World} {A : Around} {E : Value → Shared → Prop} {s : Shared}
end
section
variable {X : Cx} {T T1 T2 : List Nat} {W : WV} {K : Fg} {pos : Pos}
end
end VL

end

section
set_option Elab.async false
set_option linter.all false
set_option maxRecDepth 100000
set_option maxHeartbeats 2000000
namespace VLH
open PySem PySem.Spec PyProof.Rows L2 HotX L2H
section
variable {X : Cx}
theorem lc_coreH {pins : List (Addr × Obj)} {s : Shared} {σ : L2.St} {H : Hp} {Q : VK} {elt tg iter : Expr} {ifs : List Expr} {scope : Scope} {own : List (Str × Nat)} {pos pos' : Pos} {wi : TI} {g : TG} {tt : TT} {te : TE} {use : Option (Value → Sem Unit)} {Qf : Value → Shared → Prop}
    (hc : HotC X) (hN : X.N.Nodup) (I : Inv X pins σ H s) (hi : PIH X tg iter wi) (ok : BlkOk X.N X.env.scope scope own)
    (hg : ∀ (s : Shared) (H : Hp) (C : Addr) (cl : List (Str × Addr)) (fp : List Addr), PG (X.blk s H scope (compEnvC scope cl C X.env) fp) tg g) (ht : ∀ (s : Shared) (H : Hp) (C : Addr) (cl : List (Str × Addr)) (fp : List Addr), PTs (X.blk s H scope (compEnvC scope cl C X.env) fp) ifs tt)
    (he : ∀ (s : Shared) (H : Hp) (C : Addr) (cl : List (Str × Addr)) (fp : List Addr), PE (X.blk s H scope (compEnvC scope cl C X.env) fp) elt te) (hs : ∀ x, foldedSetIterable iter X.env x = pure x)
    (h : tLc wi g tt te (own.map (·.2)) σ H Q)
    (hRR : ∀ D C s' m H', Inv X pins σ H' s' → Q (.ref D) H' → s'.heap.Ns C m → FpOk X pins H' C → compPost (model X.prog X.w) X.A X.xe use Qf (.ref D) C (.ok .next) s') :
    wpAny (model X.prog X.w) X.A (comprehension (.ListComp elt [⟨tg, iter, ifs, 0⟩] scope pos) scope X.env pos' (newList []) false (eval iter X.env) use) Qf X.xe s := by
  obtain ⟨p0, hot0, hp0⟩ := hc
  have hfree : ∀ y ∈ scope.names, y.2 = .free → ∃ c, X.env.cells.lookup y.1 = some c := fun y hy e => (ok.free y hy e).elim (fun k => I.ok.has _ (.inl k)) fun k => I.ok.has _ (.inr k)
  refine wpAny_comprehension_free (use := use) rfl hs (closure_ok hfree) ok.kind (fun y hy e => by rw [ok.uniq y hy, e]) (thn (hi.run pins s σ H _ I h) fun xv s1 hx => thn hx fun itv s2 h2 => ?_)
  obtain ⟨it, fp, tn, J, H2, e, I2, T, st2, f2, q⟩ := h2
  subst e
  refine wpAny_newObj_type (newEnv_comp ?_) (by show 0 ≤ sizeLine; decide)
  generalize hD : s2.heap.objs.size = D
  have hDn : H2 D = none := I2.hok.fresh (Nat.le_of_eq hD)
  obtain ⟨W, ⟨m0, w0⟩, turn⟩ := q D hDn
  generalize hs3 : ({ s2 with heap := s2.heap.push { cls := .type "list", data := .seq ([] : List Value).toArray } } : Shared) = s3
  have h3 : s3.heap = s2.heap.push { cls := .type "list", data := .seq ([] : List Value).toArray } := by rw [← hs3]
  have I3 : Inv X pins σ (upd H2 D (.lst [])) s3 := by
    rw [← hs3]
    refine I2.laid (t' := s2.toks) (fun b o e => Heap.get?_push_of_some _ e) (Nat.le_of_eq hD) ⟨Nat.zero_le _, [], 0, .nil, ?_⟩
    rw [← hD]
    exact Heap.get?_push_size _ rfl
  have f3 : ∀ b ∈ fp, FpOk X pins (upd H2 D (.lst [])) b ∧ b < s3.heap.objs.size := fun b hb => by
    obtain ⟨o, e, _⟩ := T.obj _ _ st2 b hb
    have hlt := Heap.lt_size e
    refine ⟨⟨?_, (f2 b hb).2⟩, by rw [h3, Heap.size_push]; exact Nat.lt_succ_of_lt hlt⟩
    rw [upd_ne (by rw [← hD]; exact Nat.ne_of_lt hlt)]
    exact (f2 b hb).1
  have st3 : tn 0 s3.heap := T.keep _ _ _ st2 fun b _ o e => by rw [h3]; exact Heap.get?_push_of_some _ e
  have I4 := block_start I3 ok hN f3
  have pg := hg s3 (upd H2 D (.lst [])) s3.heap.objs.size (cellsFrom (s3.heap.objs.size + 1) scope.names (cloFrom X.env.cells scope.names [])) fp
  have pt := ht s3 (upd H2 D (.lst [])) s3.heap.objs.size (cellsFrom (s3.heap.objs.size + 1) scope.names (cloFrom X.env.cells scope.names [])) fp
  have pe := he s3 (upd H2 D (.lst [])) s3.heap.objs.size (cellsFrom (s3.heap.objs.size + 1) scope.names (cloFrom X.env.cells scope.names [])) fp
  show codeAny _ _ (.compStart (.ListComp elt [⟨tg, iter, ifs, 0⟩] scope pos) 0 (.ref it) (.ref D) (compEnvC scope (cellsFrom (s3.heap.objs.size + 1) scope.names (cloFrom X.env.cells scope.names [])) s3.heap.objs.size X.env)) (compPost (model X.prog X.w) X.A X.xe use Qf (.ref D) s3.heap.objs.size) { s3 with heap := pushCells (s3.heap.push { cls := .type "dict", data := .dict #[] }) scope.names }
  have nfp : ∀ b ∈ fp, (upd H2 D (.lst [])) b = none := fun b hb => (f3 b hb).1.1
  generalize hce : compEnvC scope (cellsFrom (s3.heap.objs.size + 1) scope.names (cloFrom X.env.cells scope.names [])) s3.heap.objs.size X.env = ce at I4 pg pt pe ⊢
  have cL : ce.locals = s3.heap.objs.size := by subst hce; rfl
  generalize hH3 : upd H2 D (.lst []) = H3 at I3 I4 pg pt pe w0 nfp f3
  generalize hs4 : ({ s3 with heap := pushCells (s3.heap.push { cls := .type "dict", data := .dict #[] }) scope.names } : Shared) = s4 at I4 ⊢
  have k34 : ∀ b o, s3.heap.get? b = some o → s4.heap.get? b = some o := fun b o e => by rw [← hs4]; exact pushCells_keeps _ _ _ _ (Heap.get?_push_of_some _ e)
  have st4 : tn 0 s4.heap := T.keep _ _ _ st3 fun b _ o e => k34 b o e
  -- the error that is handled stays in sight
  have P0 := I3.pin p0 (List.mem_append_left _ hp0)
  have I4p : Inv (X.blk s3 H3 scope ce fp) [p0] (wipe σ (own.map (·.2))) H3 s4 := I4.pins_of fun p hp => by
    have ep : p = p0 := by simpa using hp
    subst ep
    refine ⟨k34 _ _ P0.1, P0.2.1, ?_, fun hm => ?_, P0.2.2.2.2⟩
    · show p.1 ≠ ce.locals
      rw [cL]
      exact Nat.ne_of_lt (Heap.lt_size P0.1)
    · exact (List.mem_cons.mp (I3.stkSub p.1 hm)).elim P0.2.2.1 P0.2.2.2.1
  have stat : ∀ {σ' : L2.St} {H' : Hp} {s' : Shared}, Inv (X.blk s3 H3 scope ce fp) [p0] σ' H' s' → (∀ b ∈ fp, H' b = none) → ∀ b ∈ fp, FpOk (X.blk s3 H3 scope ce fp) [p0] H' b := fun {σ' H' s'} I' hn b hb =>
    ⟨hn b hb, (I'.ok.exf b hb).1, I'.ok.exfs b hb, .inl hb, fun x c e => (I'.ok.exf b hb).2 x c e, fun p hp => by
      have ep : p = p0 := by simpa using (show p ∈ ([] : List (Addr × Obj)) ++ [p0] from hp)
      rw [ep]
      exact (f3 b hb).1.2.2.2.2.2 p0 (List.mem_append_left _ hp0)⟩
  have statT : ∀ {σ' : L2.St} {H' : Hp} {s' : Shared}, Inv (X.blk s3 H3 scope ce fp) [p0] σ' H' s' → (∀ b ∈ fp, H' b = none) → ∀ b ∈ fp, FpOk ((X.blk s3 H3 scope ce fp).tr ([] ++ [p0]) (fun _ _ => False)) [] H' b := fun {σ' H' s'} I' hn b hb => by
    obtain ⟨a1, a2, a3, a4, a5, a6⟩ := stat I' hn b hb
    exact ⟨a1, a2, a3, a4, a5, fun p hp => a6 p (by rw [List.append_nil] at hp; exact hp)⟩
  have hotT : HotC ((X.blk s3 H3 scope ce fp).tr ([] ++ [p0]) (fun _ _ => False)) := ⟨p0, hot0, List.mem_append_right _ List.mem_cons_self⟩
  have loop : codeAny (model X.prog X.w) X.A (.compLoop (.ListComp elt [⟨tg, iter, ifs, 0⟩] scope pos) 0 (.ref it) (.ref D) ce) (compPost (model X.prog X.w) X.A X.xe use Qf (.ref D) s3.heap.objs.size) s4 := by
    refine compLoop_any (fun n s' => ∃ i H', Inv (X.blk s3 H3 scope ce fp) [p0] (wipe σ (own.map (·.2))) H' s' ∧ tn i s'.heap ∧ (∀ b ∈ fp, H' b = none) ∧ W i n H') ?_ m0 ⟨0, H3, I4p, st4, nfp, w0⟩
    rintro n s5 ⟨i, H5, I5, st5, n5, w5⟩
    rcases turn i n H5 w5 with ⟨stop, qq⟩ | ⟨go, Nx, hNx, step⟩
    · have td := T.done ((X.blk s3 H3 scope ce fp).tr ([] ++ [p0]) (fun _ _ => False)) rfl rfl rfl hotT i [] s5 _ H5 (fun _ _ => False) (I5.toTry _) (statT I5 n5) st5 stop
      refine thnF td fun r s6 ⟨hr, I6'⟩ => ?_
      subst hr
      have I6 : Inv (X.blk s3 H3 scope ce fp) [p0] (wipe σ (own.map (·.2))) H5 s6 := I6'.ofTry I5.ok
      have I7 : Inv X pins σ H5 s6 := I3.call' (ch := fp) I6.os I6.base I6.hok I6.bare fun b hb => ⟨(f3 b hb).1.2.2.2.1, (f3 b hb).1.2.1, (f3 b hb).1.2.2.2.2.1, (f3 b hb).1.2.2.2.2.2⟩
      have nC : H5 s3.heap.objs.size = none := by
        have z : H5 ce.locals = none := I6.free
        rw [cL] at z
        exact z
      obtain ⟨m, hn, _⟩ := I6.loc
      have hn : s6.heap.Ns ce.locals m := hn
      rw [cL] at hn
      exact hRR D s3.heap.objs.size s6 m H5 I7 qq hn (I3.fpOk (Nat.le_refl _) nC)
    · have ti := T.item ((X.blk s3 H3 scope ce fp).tr ([] ++ [p0]) (fun _ _ => False)) rfl rfl rfl hotT i [] s5 _ H5 (fun _ _ => False) (I5.toTry _) (statT I5 n5) st5 go
      refine thnF ti fun r s6 ⟨u, hr, h6⟩ => ?_
      subst hr
      refine thnF h6 fun _ s7 ⟨x, H7, I7', r7, y7, st7, n7⟩ => ?_
      have I7 : Inv (X.blk s3 H3 scope ce fp) [p0] (wipe σ (own.map (·.2))) H7 s7 := I7'.ofTry I5.ok
      have J7 := I7.pinned (stat I7 n7) (T.obj _ _ st7)
      refine thnF (pg.run _ s7 _ H7 x u _ J7 r7 (step x H7 y7)) fun _ s8 ⟨σ8, H8, I8, hw8, q8⟩ => ?_
      refine thnF (pt.run _ s8 σ8 H8 _ I8 q8) fun b s9 ⟨H9, I9, q9⟩ => ?_
      have fin : ∀ {s' : Shared} {H' : Hp}, Inv (X.blk s3 H3 scope ce fp) ([p0] ++ pinsAt fp s7.heap) σ8 H' s' → Nx H' → ∃ m, m < n ∧ ∃ i H', Inv (X.blk s3 H3 scope ce fp) [p0] (wipe σ (own.map (·.2))) H' s' ∧ tn i s'.heap ∧ (∀ b ∈ fp, H' b = none) ∧ W i m H' := fun {s' H'} I' nx => by
        obtain ⟨m', hm, w'⟩ := hNx H' nx
        have pin' : ∀ b ∈ fp, ∀ o, s7.heap.get? b = some o → s'.heap.get? b = some o ∧ H' b = none := fun b hb o e =>
          let z := I'.pin (b, o) (List.mem_append_right _ (List.mem_append_right _ (mem_pinsAt hb e)))
          ⟨z.1, z.2.1⟩
        have hl : (wipe σ (own.map (·.2))).length = σ8.length := by rw [← hw8, wipe_length]
        refine ⟨m', hm, i + 1, H', (I'.unpinned (pins := [p0])).weak hl (fun j v e => ?_), T.keep _ _ _ st7 fun b hb o e => (pin' b hb o e).1, fun b hb => ?_, w'⟩
        · rw [← hw8] at e
          exact (wipe_some e).1
        · obtain ⟨o, e, _⟩ := T.obj _ _ st7 b hb
          exact (pin' b hb o e).2
      cases b with
      | false =>
        simp only [Bool.false_eq_true, if_false] at q9 ⊢
        exact fin I9 q9
      | true =>
        simp only [if_true] at q9 ⊢
        refine thnF (pe.run _ s9 σ8 H9 _ I9 q9) fun z s10 ⟨yv, H10, I10, r10, acc, hD10, hz10, nx⟩ => ?_
        exact L2.app_ok (X := X.blk s3 H3 scope ce fp) I10 hD10 hz10 r10 fun s11 I11 => fin I11 nx
  exact codeAny_compStart_list loop (T.self X.A 0 _ _ _ st4 loop)
theorem pe_lcH {elt tg iter : Expr} {ifs : List Expr} {scope : Scope} {own : List (Str × Nat)} {pos : Pos} {wi : TI} {g : TG} {tt : TT} {te : TE} (hc : HotC X) (hN : X.N.Nodup) (hi : PIH X tg iter wi) (ok : BlkOk X.N X.env.scope scope own)
    (hg : ∀ (s : Shared) (H : Hp) (C : Addr) (cl : List (Str × Addr)) (fp : List Addr), PG (X.blk s H scope (compEnvC scope cl C X.env) fp) tg g) (ht : ∀ (s : Shared) (H : Hp) (C : Addr) (cl : List (Str × Addr)) (fp : List Addr), PTs (X.blk s H scope (compEnvC scope cl C X.env) fp) ifs tt)
    (he : ∀ (s : Shared) (H : Hp) (C : Addr) (cl : List (Str × Addr)) (fp : List Addr), PE (X.blk s H scope (compEnvC scope cl C X.env) fp) elt te) (hs : ∀ x, foldedSetIterable iter X.env x = pure x := by intro _; rfl) :
    PE X (.ListComp elt [⟨tg, iter, ifs, 0⟩] scope pos) (tLc wi g tt te (own.map (·.2))) := by
  refine ⟨fun pins s σ H Q I h => ?_⟩
  rw [eval_ListComp]
  refine lc_coreH hc hN I hi ok hg ht he hs h fun D C s' m H' I' q hn f => ⟨m, hn, fun h'' sb => ?_⟩
  obtain ⟨f0, f1, f2, f3, f4, f5⟩ := f
  exact ⟨.ref D, H', I'.turned (t' := s'.toks) (fun b o hb e => (sb.2 b hb).trans e) f0 f1 f3 f4 f5, rfl, q⟩
theorem call_isP {a D : Addr} {oe : Obj} (C : ExcC X.K D) (hz : Zc (.ref D) none oe) (hf : ∃ vs, oe.data = .fields vs) (hp : (a, oe) ∈ X.pn) : CallR X (.builtin "isinstance") (rIsE X.K D a) := by
  intro pins s σ H xs us Q I r h
  obtain ⟨c, cv, b, rfl, hcv, e, q⟩ := h
  cases r with
  | cons rx rr =>
    cases rr with
    | cons rt rr =>
      cases rr
      cases rx
      have ec := hcv _ rt
      subst ec
      obtain ⟨hget, _⟩ := I.pin (a, oe) (List.mem_append_left _ hp)
      obtain ⟨vs, hv⟩ := hf
      have J : PySem.W.InstAt s.heap a oe D none := by
        obtain ⟨oc, od, oda, osl⟩ := oe
        obtain ⟨h1, h2⟩ := hz
        dsimp only at h1 h2 hv
        subst h1 h2 hv
        exact ⟨hget, rfl, rfl, trivial⟩
      exact PySem.W.kia_one (PySem.W.handS_kitx_exc C.hg C.hk C.hs C.hd C.ha C.hn C.ht C.hm) I.kIn J e (fun z => nomatch z) fun tk => ⟨.bl b, H, I.kept (t' := tk) fun _ _ z => z, rfl, q⟩
end
structure FnE (P : Program) (w : World) (K : PySem.W.Frag) (mg : Str → Option Value) (base : Heap) (k : Nat) (f : Addr) (fd : FuncData) (ps : List Str) (sp : Addr → Addr → Sp) : Prop where
  len : ∀ a D vs H Q E, sp a D vs H Q E → vs.length = ps.length
  run : ∀ (A : Around) (outer : List Env) (s : Shared) (H : Hp) (args : Args) (us : List Value) (vs : List V) (Q : VK) (E : XK) (p : Addr × Obj) (D : Addr), RoomH k A → Hot1 A p → PinOk outer H s p → Zc (.ref D) none p.2 → Env0 P w K mg base A outer s H → BindsTo s fd args (ps.zip us) → Vals vs us → sp p.1 D vs H Q E →
    codeAny (model P w) A (.call (.ref f) args) (CR CX0 outer P w H s Q E) s
theorem fn_ofE {P : Program} {w : World} {K : PySem.W.Frag} {mg : Str → Option Value} {base : Heap} {k : Nat} {f : Addr} {fd : FuncData} {x qual : Str} {st : Stmt} {N ps : List Str} {sp : Addr → Addr → Sp} (F : Fun K x qual st f fd) (S : FnScope N ps (defScope st))
    (len : ∀ a D vs H Q E, sp a D vs H Q E → vs.length = ps.length)
    (hbody : ∀ (cdv : Value) (A : Around) (outer : List Env) (s : Shared) (H : Hp) (vs : List V) (Q : VK) (E : XK) (p : Addr × Obj) (D : Addr), Hot1 A p → Zc (.ref D) none p.2 → RoomH k (A.deeper (envOfC qual (defScope st) s.heap.objs.size f cdv)) → sp p.1 D vs H Q E →
      ∃ t, PSs (cxH CX0 P w K mg base N qual (defScope st) f cdv A outer s H E p) (defBody st) t ∧ t { nx := fun _ H' => Q .non H', rt := Q } (L2.start N vs) H) :
    FnE P w K mg base (k + 1) f fd ps sp := by
  obtain ⟨oc, od, kV, doc, pm, an, cdv, ct, osl, rfl, lk, hcd⟩ := F.ex
  refine ⟨len, fun A outer s H args us vs Q E p D hr hot hpin hz e0 hb r hsp => ?_⟩
  have hl := len _ _ _ _ _ _ hsp
  have KX : K.In s.heap := e0.mod.kin.keeps fun b o e => (e0.bs b o e).1
  have lim : s.heap.NoLimit := e0.mod.nolimit.keeps fun b o e => (e0.bs b o e).1
  have hkind : ∀ y ∈ ps.zip us, (defScope st).names.lookup y.1 = some .local ∨ ((defScope st).names.lookup y.1 = some .cell ∧ ((cellsFrom (s.heap.objs.size + 1) (defScope st).names []).lookup y.1).isSome = true) := fun ⟨n, v⟩ hy =>
    (S.par n (List.of_mem_zip hy).1).elim .inl fun q => .inr ⟨q, PySem.W.cellsFrom_some _ _ _ (.inl q)⟩
  refine codeAny_call_function hr.depth (KX _ _ lk) rfl S.co S.gen rfl (PySem.W.codeRec_of KX hcd) (hb _ _ _ _ ?_)
  refine wpAny_newFunctionEnv_cells S.kind hkind fun env he s1 x => ?_
  subst he
  refine ⟨lim.keeps x.toInCall.keep, codeAny_func ?_⟩
  obtain ⟨t, ht, hq⟩ := hbody cdv A outer s H vs Q E p D hot hz (hr.deeper _) hsp
  have I : Inv (cxH CX0 P w K mg base N qual (defScope st) f cdv A outer s H E p) [] (L2.start N vs) H s1 := inv_startH S hpin e0 hl r x
  refine wpAny_mono (ht.run [] s1 (L2.start N vs) H _ I hq) (fun fl s' hs => ?_) fun e s' hs => hs
  have fin : ∀ {σ' : L2.St} {H' : Hp} {v : V} {u : Value}, Inv (cxH CX0 P w K mg base N qual (defScope st) f cdv A outer s H E p) [] σ' H' s' → RelV v u → Q v H' → CE outer P w H s Q u s' :=
    fun {σ' H' v u} J rv q => ⟨v, H', J.os, J.bare, J.base, J.hok, rv, q⟩
  cases fl with
  | ret u =>
    obtain ⟨v, σ', H', J, rv, q⟩ := hs
    exact fin J rv q
  | next =>
    obtain ⟨σ', H', J, q⟩ := hs
    exact fin (v := V.non) (u := Value.none) J rfl q
  | brk =>
    obtain ⟨_, _, _, q⟩ := hs
    exact False.elim q
  | cont =>
    obtain ⟨_, _, _, q⟩ := hs
    exact False.elim q
theorem pe_callE {X : Cx} {k : Nat} {f a D : Addr} {oe : Obj} {fd : FuncData} {ps : List Str} {sp : Addr → Addr → Sp} {E : XK} {x : Str} {q pos : Pos} {e : Expr} {t : TA} (F : FnE X.prog X.w X.K X.mg X.base k f fd ps sp) (hr : RoomH k X.A) (hot : Hot1 X.A (a, oe)) (hp : (a, oe) ∈ X.pn) (hz : Zc (.ref D) none oe)
    (hg : Gl X x) (hm : X.mg x = some (.ref f)) (hk : PySem.W.keepIn X.K (.ref f) = true) (hb : Binds X.K fd ps [])
    (ha : PA X [e] t) (hdb : (x == ("__debug__" : Str)) = false := by decide) (he : starEach [e] X.env = (false, eval e X.env) :: starEach [] X.env := by rfl) (hpl : (backTo pos (starEach [] X.env)).any (·.1) = false := by rfl) :
    PE X (.Call (.Name x q) [e] [] pos) (fun σ H Q => t σ H fun vs H1 => sp a D vs H1 Q E) := by
  refine ⟨fun pins s σ H Q I h => ?_⟩
  refine wpAny_Call_Name_kw (ld_glob I hg hm ?_ hdb)
  refine PySem.W.callWith_K (h₀ := X.base) I.ok.mod.kin hk (thn (ha.run pos pins s σ H _ I h) fun us s1 ⟨vs, H1, I1, r, h1⟩ => ⟨I1.kIn, ?_⟩) he hpl
  have hl : us.length = ps.length := by rw [← r.length]; exact F.len _ _ _ _ _ _ h1
  have b := hb s1 us I1.kIn (by rw [List.append_nil]; exact hl)
  rw [List.append_nil] at b
  have P1 := I1.pin (a, oe) (List.mem_append_left _ hp)
  have hpin : PinOk X.stack H1 s1 (a, oe) := ⟨P1.1, P1.2.1, fun hm => (List.mem_cons.mp (I1.stkSub a hm)).elim P1.2.2.1 P1.2.2.2.1, P1.2.2.2.2⟩
  refine wpAny_call (codeAny_mono (F.run X.A X.stack s1 H1 ⟨us, []⟩ us vs Q E (a, oe) D hr hot hpin hz I1.env0 b r h1) fun r s' hq => ?_)
  cases r with
  | error e => exact hq.elim
  | ok fl =>
    cases fl with
    | ret u => exact I1.after hq
    | next => exact False.elim hq
    | brk => exact False.elim hq
    | cont => exact False.elim hq
end VLH

end

section
set_option Elab.async false
set_option linter.all false
set_option maxRecDepth 100000
set_option maxHeartbeats 2000000
namespace VL
open PySem PySem.Spec PyProof.Rows L2
noncomputable def WxR (mg : Str → Option Value) : WX0 := fun c E H => ∀ cls, mg c = some cls → E cls none H
noncomputable def toWX (mg : Str → Option Value) (W : WV) : WX := fun cls d σ H => d = none ∧ ∃ c, mg c = some cls ∧ W c σ H
noncomputable def TakesV (X : Cx) (W : WV) : Prop := L2N.Takes X (toWX X.mg W)
theorem takesN0 {X : Cx} : L2N.Takes X (fun _ _ _ _ => False) := fun u s' ⟨_, _, _, _, _, _, _, _, _, _, _, _, _, _, _, _, h⟩ => h.elim
section
variable {P : Program} {w : World} {K : PySem.W.Frag} {mg : Str → Option Value} {base : Heap}
theorem fn_okR {x qual : Str} {st : Stmt} {f : Addr} {fd : FuncData} {N ps : List Str} {k : Nat} {g : MS} (F : Fun K x qual st f fd) (S : FnScope N ps (defScope st))
    (hb : ∀ (cdv : Value) (A : Around) (outer : List Env) (s : Shared) (H : Hp) (E : XK), Room k (A.deeper (envOfC qual (defScope st) s.heap.objs.size f cdv)) →
      TakesV (cxOf (L2N.CX P w) P w K mg base N qual (defScope st) f cdv A outer s H E) (fun c _ H' => WxR mg c E H') →
      PassesOwn (model P w) (cxOf (L2N.CX P w) P w K mg base N qual (defScope st) f cdv A outer s H E).A (cxOf (L2N.CX P w) P w K mg base N qual (defScope st) f cdv A outer s H E).env (cxOf (L2N.CX P w) P w K mg base N qual (defScope st) f cdv A outer s H E).xe →
      VSs (cxOf (L2N.CX P w) P w K mg base N qual (defScope st) f cdv A outer s H E) (fun c _ H' => WxR mg c E H') (defBody st) g) :
    FnOk P w K mg base (L2N.CX P w) (k + 1) f fd ps (spV K (WxR mg) ps.length (runF N.length g)) := by
  obtain ⟨oc, od, kV, doc, pm, an, cdv, ct, osl, rfl, lk, hcd⟩ := F.ex
  refine fn_of lk hcd S (fun vs H Q E h => h.1) fun A outer s H vs Q E hr hsp => ?_
  have tk : L2N.Takes (cxOf (L2N.CX P w) P w K mg base N qual (defScope st) f cdv A outer s H E) (fun cls d _ H => E cls d H) := L2N.takes_of rfl rfl rfl rfl
  exact ⟨_, hb cdv A outer s H E hr (tk.imp fun cls d σ H' ⟨hd, c, hc, h⟩ => by subst hd; exact h cls hc) (L2.passes_of (K := fun e s'' => L2N.CX P w outer H s E e s'') (E₁ := fun e' s'' => L2N.CX P w outer H s E e' s'') rfl), run_ok (CX := L2N.CX P w) (x := x) (qual := qual) (f := f) (sc := defScope st) (cdv := cdv) (A := A) (outer := outer) (s := s) hsp⟩
end
noncomputable def callR (Ts : List Nat) (m : Nat) (f : Fn) (rs : List Rv) : M Tr := fun ρ => match argSls ρ rs with
  | some args => if decide (rs.length = m) && (oneEach rs && allIn Ts rs) then (match f args with
    | some (.ret t, outs) => if backOk args (mrg args outs) then some (.ok t (wb ρ rs (mrg args outs))) else none
    | some (.exc c, outs) => if backOk args (mrg args outs) then some (.ex c (wb ρ rs (mrg args outs))) else none
    | none => none) else none
  | none => none
noncomputable def nCallR (Ts : List Nat) (m : Nat) (f : Fn) (fs : M (List Rv)) : M Tr := bnd fs (callR Ts m f)
section
variable {X : Cx} {T : List Nat} {W : WV} {k m : Nat} {f : Addr} {fd : FuncData} {ps : List Str} {F : Fn} {x : Str} {p pos : Pos} {e : Expr} {es : List Expr} {fs : M (List Rv)} {Ts : List Nat}
theorem callR_sp {F1 H1 : Hp} {σ : Sg} {ρ1 : Rho} {fp1 : FP} {rs : List Rv} {vs : List V} {o : Er Tr} {Q : VK} (s1 : EnvOk X.K F1 H1 σ ρ1 fp1) (r1 : RvsOk X.K F1 σ ρ1 vs rs) (e1 : callR Ts m F rs ρ1 = some o) (P1 : Pst (T ++ Ts) W (rlN X.K) F1 H1 σ ρ1 fp1 Q o) :
    spV X.K (WxR X.mg) m F vs H1 Q (WE (toWX X.mg W) σ) := by
  unfold callR at e1
  split at e1
  · rename_i args hargs
    split at e1
    · rename_i ho
      rw [Bool.and_eq_true, Bool.and_eq_true] at ho
      have hl : vs.length = m := by rw [rvs_len r1]; exact of_decide_eq_true ho.1
      split at e1
      · rename_i t outs hf
        split at e1
        · rename_i hbk
          cases ok_inj e1
          refine ⟨hl, F1, args, fpArgs rs fp1, _, outs, args_env s1 r1 hargs ho.2.1, hf, fun v A H' F' fp' st n => ?_⟩
          have s2 := call_step (Ts := Ts) s1 r1 hargs ho.2.1 ho.2.2 st fun k m t h => backOk_get hbk h
          exact P1 v H' F' _ (s2.sub fun i hi => List.mem_append_right _ hi) ⟨A, call_new s1 ho.2.1 n⟩
        · cases e1
      · rename_i c outs hf
        split at e1
        · rename_i hbk
          cases (Option.some.inj e1)
          refine ⟨hl, F1, args, fpArgs rs fp1, _, outs, args_env s1 r1 hargs ho.2.1, hf, fun H' F' fp' st cls hcls => ?_⟩
          have s2 := call_step (Ts := Ts) s1 r1 hargs ho.2.1 ho.2.2 st fun k m t h => backOk_get hbk h
          exact ⟨rfl, c, hcls, P1 H' F' _ (s2.sub fun i hi => List.mem_append_right _ hi)⟩
        · cases e1
      · cases e1
    · cases e1
  · cases e1
theorem vn_callR (G : FnOk X.prog X.w X.K X.mg X.base (L2N.CX X.prog X.w) k f fd ps (spV X.K (WxR X.mg) m F)) (hr : Room k X.A) (tk : TakesV X W) (hg : Gl X x) (hm : X.mg x = some (.ref f)) (hk : PySem.W.keepIn X.K (.ref f) = true) (hb : Binds X.K fd ps [])
    (ha : VA X T W (e :: es) fs) (hdb : (x == ("__debug__" : Str)) = false := by decide) (he : starEach (e :: es) X.env = (false, eval e X.env) :: starEach es X.env := by rfl) (hpl : (backTo pos (starEach es X.env)).any (·.1) = false := by rfl) :
    VN X (T ++ Ts) W (.Call (.Name x p) (e :: es) [] pos) (nCallR Ts m F fs) :=
  pe_imp (pe_callS G hr hg hm hk hb (fun σ => L2N.passAt tk σ) ha hdb he hpl) fun σ H Q ⟨F0, ρ, fp, o, E, q, P⟩ => by
    refine tv_bnd (T := T) E q P (fun i hi => List.mem_append_left _ hi) fun rs ρ1 vs H1 F1 fp1 s1 r1 e1 P1 => ?_
    exact callR_sp s1.env r1 e1 P1
noncomputable def sRaise (c : Str) : MS := fun ρ => some (.ex c ρ)
noncomputable def excB (K : PySem.W.Frag) (cs : List Addr) (C : Addr) : Bool :=
  PySem.W.excIn K C [.type "ValueError", .type "Exception", .type "BaseException", .type "object"] "ValueError.__new__" && PySem.W.keepIn K (.ref C) &&
  ((PySem.W.subIn K (.ref C) (.type "BaseException") == some true) && (PySem.W.typeIn K (.ref C) == some (.type "type"))) &&
  ((PySem.W.findIn K (.ref C) "__getattribute__" == some (some (.builtin "BaseException.__getattribute__"))) && (PySem.W.findIn K (.ref C) "__getattr__" == some none)) &&
  (PySem.W.hasDictIn K C && (PySem.W.findIn K (.ref C) "__class__" == some (some (.builtin "object.__class__")))) &&
  ((PySem.W.specialIn K (.builtin "object.__class__") "__get__" == some (some (.builtin "getset_descriptor.__get__"))) && (PySem.W.takesIn K (.builtin "object.__class__") == some true)) &&
  ((PySem.W.mroIn K C (.type "object") == some true) && (PySem.W.kitOne K (.ref C) (.type "ValueError") == some true)) &&
  cs.all (fun D => PySem.W.kitOne K (.ref C) (.ref D) == some (C == D))
structure ExcF (K : PySem.W.Frag) (cs : List Addr) (C : Addr) : Prop where
  ex : PySem.W.excIn K C [.type "ValueError", .type "Exception", .type "BaseException", .type "object"] "ValueError.__new__" = true
  kp : PySem.W.keepIn K (.ref C) = true
  sb : PySem.W.subIn K (.ref C) (.type "BaseException") = some true
  ty : PySem.W.typeIn K (.ref C) = some (.type "type")
  c : ExcC K C
  ve : PySem.W.kitOne K (.ref C) (.type "ValueError") = some true
  ds : ∀ D ∈ cs, PySem.W.kitOne K (.ref C) (.ref D) = some (C == D)
theorem excF_of {K : PySem.W.Frag} {cs : List Addr} {C : Addr} (h : excB K cs C = true) : ExcF K cs C := by
  unfold excB at h
  simp only [Bool.and_eq_true, beq_iff_eq, List.all_eq_true] at h
  obtain ⟨⟨⟨⟨⟨⟨⟨h1, h2⟩, h3, h4⟩, h5, h6⟩, h7, h8⟩, h9, h10⟩, h11, h12⟩, h13⟩ := h
  exact ⟨h1, h2, h3, h4, ⟨h5, h6, h3, h7, h8, h9, h10, h11⟩, h12, h13⟩
theorem vs_raise {c m : Str} {j : Nat} {p1 p2 p3 : Pos} {C : Addr} {cs : List Addr} (hc : X.calm = true) (tk : TakesV X W) (F : ExcF X.K cs C) (gC : X.mg x = some (.ref C)) (hg : Gl X x) (hx : x = c) (hdb : (x == ("__debug__" : Str)) = false := by decide) :
    VS X W (.Raise (some (.Call (.Name x p1) [.Constant (.str m) j p2] [] p3)) none pos) (sRaise c) :=
  ps_imp (L2N.ps_raise hc tk (L2N.pmk_own PySem.F.excBase_ValueError F.ex gC F.kp (raises_own F.sb F.ty) hg hdb)) fun D σ H ⟨F0, ρ, fp, o, E, q, P⟩ => by
    cases (Option.some.inj q)
    subst hx
    exact ⟨rfl, x, gC, P σ H F0 fp (.refl E)⟩
noncomputable def strsD : List PyData → Option (List Str)
  | [] => some []
  | .str s :: ds => (strsD ds).map (s :: ·)
  | _ :: _ => none
theorem strs_ok {K : Fg} {F : Hp} : ∀ {vs : List V} {ds : List PyData} {ss : List Str}, DqAll K F vs ds → strsD ds = some ss → vs = ss.map V.str
  | _, _, _, .nil, e => by simp only [strsD] at e; cases e; rfl
  | _, d :: ds, _, .cons h t, e => by
    cases d <;> simp only [strsD] at e <;> try (cases e; done)
    obtain ⟨ss, e1, rfl⟩ := map_some e
    cases h
    rw [strs_ok t e1]
    rfl
noncomputable def join1 (x y : Rv) : M Rv := fun ρ => match derS ρ x, derS ρ y with
  | some (.str a), some (.list ds) => (match strsD ds with
    | some ss => if (ss.map (·.length)).sum + ss.length * a.length ≤ 16777216 then some (.ok (.d (.str (Txt.join a ss))) ρ) else none
    | none => none)
  | _, _ => none
noncomputable def cJoin (f g : M Rv) : M Rv := bnd f fun x => fun ρ => match x with
  | .d (.str a) => bnd g (join1 x) ρ
  | _ => none
theorem ve_join {T1 T2 : List Nat} {o : Expr} {fo fe : M Rv} {apos cpos : Pos} (ho : VE X T1 W o fo) (he : VE X T2 W e fe) (hs : starEach [e] X.env = [(false, eval e X.env)] := by rfl) (hbase : attributeBase o "join" X.env (eval o X.env) = eval o X.env := by rfl) (hline : (apos.endLine == cpos.line) = true := by rfl) :
    VE X (T1 ++ T2) W (.Call (.Attribute o "join" apos) [e] [] cpos) (cJoin fo fe) :=
  pe_imp (pe_join ho he hs hbase hline) fun σ H Q ⟨F, ρ, fp, ou, E, q, P⟩ => by
    refine tv_bnd E q P (fun i hi => List.mem_append_left _ hi) fun x ρ1 v H1 F1 fp1 s1 r1 e1 P1 => ?_
    split at e1
    · rename_i a
      have r1' : Dq X.K F1 v (.str a) := r1
      cases r1'
      refine ⟨⟨a, rfl⟩, ?_⟩
      refine tv_bnd s1.env e1 P1 (fun i hi => List.mem_append_right _ hi) fun y ρ2 w H2 F2 fp2 s2 r2 e2 P2 => ?_
      unfold join1 at e2
      split at e2
      · rename_i a' ds ha hd
        cases ha
        split at e2
        · rename_i ss hss
          split at e2
          · rename_i hz
            cases ok_inj e2
            obtain ⟨b, vs, rfl, h1, h2⟩ := (derS_ok s2.env r2 hd).list s2.env.sub
            have ev := strs_ok h2 hss
            subst ev
            exact ⟨a, b, ss, rfl, rfl, .inl (.inl h1), hz, P2 _ H2 F2 fp2 (.refl s2.env) (.str _)⟩
          · cases e2
        · cases e2
      · cases e2
    · cases e1
noncomputable def cIsE (i : Nat) (a : Addr) (b : Bool) : M Rv := fun ρ => match ρ[i]? with
  | some (.own _ (.raw (.ref a'))) => if a' = a then some (.ok (.d (.bool b)) ρ) else none
  | _ => none
theorem ve_isE (i : Nat) {a D : Addr} {oe : Obj} {y : Str} {cv : Value} {c : V} {b : Bool} {p1 p2 : Pos} (C : ExcC X.K D) (hz : Zc (.ref D) none oe) (hf : ∃ vs, oe.data = .fields vs) (hp : (a, oe) ∈ X.pn) (hk : PySem.W.kitOne X.K (.ref D) cv = some b)
    (hn : X.mg "isinstance" = none) (hgn : Gl X "isinstance") (hy : PE X (.Name y p2) (tC c)) (hcv : ∀ u, RelV c u → u = cv) (hN : X.N[i]? = some x := by rfl) (hv : Vis X.env.scope x := by first | exact Or.inl rfl | exact Or.inr (Or.inl rfl) | exact Or.inr (Or.inr rfl)) (hd : (x == ("__debug__" : Str)) = false := by decide)
    (hcd : (x == ("__classdict__" : Str)) = false := by decide) : VE X [] W (.Call (.Name "isinstance" p) [.Name x p1, .Name y p2] [] pos) (cIsE i a b) :=
  pe_imp (pe_callB (VLH.call_isP C hz hf hp) hgn hn (by decide +kernel) (pa_cons (pe_var hN hv hd hcd) (pa_cons hy pa_nil)) (by decide) (by decide) rfl rfl) fun σ H Q ⟨F, ρ, fp, o, E, q, P⟩ => by
    unfold cIsE at q
    split at q
    · rename_i m a' h
      split at q
      · rename_i ea
        subst ea
        cases ok_inj q
        obtain ⟨u, hu, r⟩ := E.sl i _ h
        generalize fp i = A at r
        cases r
        exact ⟨_, sg_some.mp hu, c, cv, b, rfl, hcv, hk, P _ H F fp (.refl E) (.bl b)⟩
      · cases q
    · cases q
noncomputable def VIH (X : Cx) (T : List Nat) (W : WV) (tg iter : Expr) (f : M (List PyData)) : Prop := ∃ wi, L2H.PIH X tg iter wi ∧ ∀ σ H R F ρ fp o, EnvOk X.K F H σ ρ fp → f ρ = some o →
  (match o with
   | Er.ok xs ρ' => ∀ J G Y H1 F1 fp1, EStep X.K T F H σ ρ fp F1 H1 ρ' fp1 → Walk J xs.length G Y → (∀ F2 H2, Same F1 F2 → Same F2 H2 → G H2) →
      (∀ i F2 H2 x H3, i < xs.length → Same F1 F2 → Same F2 H2 → Y i H2 x H3 → ∃ F3 d, xs[i]? = some d ∧ Grow F2 H2 F3 H3 ∧ Dq X.K F3 x d) → R J H1
   | Er.ex c ρ' => ∀ H1 F1 fp1, EStep X.K T F H σ ρ fp F1 H1 ρ' fp1 → W c σ H1) → wi σ H R
theorem vih_range1 {tg a : Expr} {fs : M (List Rv)} {p : Pos} (hg : Gl X "range") (hm : X.mg "range" = none) (ha : VA X T W [a] fs) (hs : starEach [a] X.env = [(false, eval a X.env)] := by rfl) : VIH X T W tg (.Call (.Name "range" p) [a] [] pos) (iRange1 fs) := by
  refine ⟨_, L2H.pi_range1H hg hm ha hs, fun σ H R F ρ fp o E q P => ?_⟩
  unfold iRange1 bnd at q
  cases hf : fs ρ with
  | none => rw [hf] at q; cases q
  | some r =>
    rw [hf] at q
    cases r with
    | ex c ρ1 => cases q; exact ⟨F, ρ, fp, _, E, hf, fun H1 F1 fp1 s1 => P H1 F1 fp1 s1⟩
    | ok rs ρ1 =>
      simp only at q
      split at q
      · rename_i j
        split at q
        · rename_i hj
          cases q
          refine ⟨F, ρ, fp, _, E, hf, fun vs H1 F1 fp1 s1 r1 => ?_⟩
          cases r1 with
          | cons h t =>
            cases t
            have h : Dq X.K F1 _ (.int j) := h
            cases h
            have w0 := walk_range (lo := 0) (n := j.toNat)
            rw [← rangeD_len 0 j.toNat] at w0
            refine ⟨j, rfl, hj.1, hj.2, P _ _ _ H1 F1 fp1 s1 (by rw [rangeD_len] at w0 ⊢; exact w0) (fun _ _ _ _ => trivial) fun i F2 H2 x H3 hi a b y => ?_⟩
            obtain ⟨rfl, rfl⟩ := y
            rw [rangeD_len] at hi
            exact ⟨F2, _, rangeD_get hi, .refl b, .int _⟩
        · cases q
      · cases q
theorem vn_compH {T1 T2 T3 : List Nat} {elt tg iter : Expr} {ifs : List Expr} {scope : Scope} {own : List (Str × Nat)} {fi : M (List PyData)} {gt : TG} {ws : List Nat} {G : MG} {tt : M Bool} {te : M Rv} (hc : L2H.HotC X) (hN : X.N.Nodup) (hi : VIH X T1 W tg iter fi) (ok : BlkOk X.N X.env.scope scope own)
    (hg : ∀ (s : Shared) (H : Hp) (C : Addr) (cl : List (Str × Addr)) (fp : List Addr), VG (X.blk s H scope (compEnvC scope cl C X.env) fp) tg gt ws G) (hw : ∀ i ∈ ws, i ∈ own.map (·.2))
    (ht : ∀ (s : Shared) (H : Hp) (C : Addr) (cl : List (Str × Addr)) (fp : List Addr), VTs (X.blk s H scope (compEnvC scope cl C X.env) fp) T2 W0 ifs tt)
    (he : ∀ (s : Shared) (H : Hp) (C : Addr) (cl : List (Str × Addr)) (fp : List Addr), VE (X.blk s H scope (compEnvC scope cl C X.env) fp) T3 W0 elt te) (hs : ∀ x, foldedSetIterable iter X.env x = pure x := by intro _; rfl) :
    VN X (T1 ++ (T2 ++ T3)) W (.ListComp elt [⟨tg, iter, ifs, 0⟩] scope pos) (nComp fi (own.map (·.2)) G tt te) := by
  obtain ⟨wi, p1, q1⟩ := hi
  exact pe_imp (VLH.pe_lcH (tt := tVT X.K T2 W0 tt) (te := tV X.K T3 W0 te) hc hN p1 ok (fun s H C cl fp => (hg s H C cl fp).1) ht he hs) fun σ H Q h => tv_comp q1 (hg X.s_0 (fun _ => none) 0 [] []).2 hw h
noncomputable def plusS : Str := ⟨#[43]⟩
noncomputable def spK (K : Fg) (mg : Str → Option Value) (cs : List Str) : Addr → Addr → Sp := fun a D vs H Q _ => vs = [.ref a] ∧ ∃ c ∈ cs, mg c = some (.ref D) ∧ ∃ F, Same F H ∧ TbOk K F H ∧ ∀ F' H', Grow2 K F H F' H' → Q (.str (c ++ plusS)) H'
noncomputable def isNo : Option Sl → Bool
  | some .no => true
  | _ => false
theorem isNo_some {o : Option Sl} (h : isNo o = true) : o = some .no := by
  unfold isNo at h
  split at h
  · rfl
  · cases h
theorem isNo_own {ρ : Rho} {j : Nat} (h : isNo ρ[j]? = true) : noOwn ρ [j] = true := by
  unfold noOwn noOwn
  rw [isNo_some h]
  rfl
theorem isNo_set {ρ : Rho} {j : Nat} (h : isNo ρ[j]? = true) : ρ.set j .no = ρ := by
  have e := isNo_some h
  have hl := (List.getElem?_eq_some_iff.mp e).1
  apply List.ext_getElem?
  intro i
  by_cases hi : j = i
  · subst hi; rw [List.getElem?_set_self hl, e]
  · rw [List.getElem?_set_ne hi]
noncomputable def sTryK (cs : List Str) (j k : Nat) (g : MS) : MS := fun ρ => match g ρ with
  | some (.ex c ρ1) => if c ∈ cs ∧ isNo ρ1[j]? = true then (match setSl ρ1 k (.val (.str (c ++ plusS))) with
    | some ρ2 => if isNo ρ2[j]? then some (.nx ρ2) else none
    | none => none) else none
  | o => o
theorem vs_tryK {n kn xk : Str} {Hc : Addr} {cs : List Str} {j i : Nat} {np pos' p1 p2 p3 p4 p5 : Pos} {body : List Stmt} {g : MS} (hN : X.N.Nodup) (G : VLH.FnE X.prog X.w X.K X.mg X.base k f fd ["e"] (spK X.K X.mg cs)) (hr : Room k X.A) (hmk : X.mg xk = some (.ref f)) (hgk : Gl X xk) (hkk : PySem.W.keepIn X.K (.ref f) = true) (hbk : Binds X.K fd ["e"] [])
    (hgH : Gl X x) (hmH : X.mg x = some (.ref Hc)) (tab : ∀ c ∈ cs, ∃ C, X.mg c = some (.ref C) ∧ PySem.W.exmOne X.K (.ref C) (.ref Hc) = some true)
    (hb : ∀ (W : WV) (pn : List (Addr × Obj)) (xe : Value → Shared → Prop), TakesV (X.tr pn xe) W → PassesOwn (model X.prog X.w) X.A X.env xe → VSs (X.tr pn xe) W body g)
    (hj : X.N[j]? = some n := by rfl) (hi : X.N[i]? = some kn := by rfl) (hln : X.env.kindOf n = some .local := by rfl) (hlk : Loc X.env.scope kn := by first | exact Or.inl rfl | exact Or.inr rfl) (hs : X.stack = X.env :: X.outer := by rfl) (hf : X.env.frame = some X.env.locals := by rfl)
    (hvn : Vis X.env.scope n := by first | exact Or.inl rfl | exact Or.inr (Or.inl rfl) | exact Or.inr (Or.inr rfl)) (hdb : (x == ("__debug__" : Str)) = false := by decide) (hdk : (xk == ("__debug__" : Str)) = false := by decide) (hdn : (n == ("__debug__" : Str)) = false := by decide) (hcn : (n == ("__classdict__" : Str)) = false := by decide)
    (hsw : ∀ a pn, swapsWith (.Call (.Name xk p2) [.Name n p3] [] p4) (some (.Name kn p1)) p5.line (X.suite a pn).env = pure false := by intro _ _; rfl)
    (hlkf : X.fn kn = true ∨ X.env.scope.names.lookup kn = some .local := by first | exact .inl rfl | exact .inr rfl | assumption) :
    VS X W (.Try body [.ExceptHandler (some (.Name x np)) (some n) [.Assign [.Name kn p1] (.Call (.Name xk p2) [.Name n p3] [] p4) p5] pos'] [] [] pos) (sTryK cs j i g) := by
  have hsu : ∀ (a : Addr) (oe : Obj) (cls : Value) (d : Option Addr) (pn : List (Addr × Obj)), L2N.Zn cls d oe → (∃ vs, oe.data = .fields vs) → PSs (X.suite a ((a, oe) :: pn)) [.Assign [.Name kn p1] (.Call (.Name xk p2) [.Name n p3] [] p4) p5]
      (fun D σ H => ∃ Dc, cls = .ref Dc ∧ d = none ∧ (tAsg (fun σ H Q => (tCons (tVar j) tNil) σ H fun vs H1 => spK X.K X.mg cs a Dc vs H1 Q (fun _ _ _ => False)) (gName i)) D σ H) := by
    intro a oe cls d pn hz hfl
    refine ⟨fun pins s σ H D I h => ?_⟩
    obtain ⟨Dc, rfl, rfl, h⟩ := h
    obtain ⟨vs, hvs⟩ := hfl
    have hot : L2H.Hot1 (X.suite a ((a, oe) :: pn)).A (a, oe) := ⟨rfl, vs, hvs, hz.2.2 vs hvs⟩
    exact (pss_one (ps_set (X := X.suite a ((a, oe) :: pn)) (i := i) hN hi hlk (VLH.pe_callE (X := X.suite a ((a, oe) :: pn)) (D := Dc) G ⟨hr.dp, hr.un⟩ hot List.mem_cons_self hz.zc hgk hmk hkk hbk (pa_cons (pe_var hj hvn hdn hcn) pa_nil) hdk) (hsw _ _) hlkf)).run pins s σ H D I h
  refine ps_imp (L2N.ps_try_as (x := x) (c := .ref Hc) (i := j) (tb := fun W' => tS X.K (fun c σ H => ∀ cls, X.mg c = some cls → W' cls none σ H) g) hs hf hN hj hln ⟨hgH, hdb, .inl hmH⟩ takesN0
    (fun W' pn xe tk po => hb _ pn xe (tk.imp fun cls d σ H ⟨hd, c, hc, h⟩ => by subst hd; exact h cls hc) po) hsu) fun D σ H ⟨F0, ρ, fp, o, E, q, P⟩ => ?_
  unfold sTryK at q
  have other : ∀ {o' : Out}, g ρ = some o' → o = o' → (∀ c ρ1, o' ≠ .ex c ρ1) → tS X.K (fun c σ H => ∀ cls, X.mg c = some cls → wAs X.K (.ref Hc) j (fun a cls d => fun D σ H => ∃ Dc, cls = .ref Dc ∧ d = none ∧ (tAsg (fun σ H Q => (tCons (tVar j) tNil) σ H fun vs H1 => spK X.K X.mg cs a Dc vs H1 Q (fun _ _ _ => False)) (gName i)) D σ H) (fun _ _ _ _ => False) D cls none σ H) g D σ H := by
    intro o' hg ho hne
    subst ho
    refine ⟨F0, ρ, fp, o, E, hg, ?_⟩
    cases o with
    | nx ρ' => exact P
    | rt t ρ' => exact P
    | bk ρ' => exact P
    | ct ρ' => exact P
    | ex c ρ' => exact absurd rfl (hne c ρ')
  cases hg : g ρ with
  | none => rw [hg] at q; cases q
  | some o' =>
    rw [hg] at q
    cases o' with
    | nx ρ' => cases q; exact other hg rfl (fun _ _ z => nomatch z)
    | rt t ρ' => cases q; exact other hg rfl (fun _ _ z => nomatch z)
    | bk ρ' => cases q; exact other hg rfl (fun _ _ z => nomatch z)
    | ct ρ' => cases q; exact other hg rfl (fun _ _ z => nomatch z)
    | ex c ρ1 =>
      simp only at q
      split at q
      · rename_i hc
        obtain ⟨hc, hno⟩ := hc
        split at q
        · rename_i ρ2 h2
          split at q
          · rename_i hno2
            cases (Option.some.inj q)
            have e1 := isNo_set hno
            have e2 := isNo_set hno2
            refine ⟨F0, ρ, fp, _, E, hg, fun σ1 H1 F1 fp1 s1 cls hcls => ?_⟩
            obtain ⟨C, hC, hex⟩ := tab c hc
            rw [hC] at hcls
            cases hcls
            refine ⟨true, hex, fun _ a ha => ?_, fun z => by cases z⟩
            have hjl : j < σ1.length := by
              rw [s1.env.len]
              exact (List.getElem?_eq_some_iff.mp (isNo_some hno)).1
            -- growth, then the error's slot, then the word, then the slot again
            have sA : ∀ F2 H', Grow2 X.K F1 H1 F2 H' → Step X.K F0 H σ ρ fp F2 H' (σ1.set j (some (.ref a))) ρ1 fp1 := fun F2 H' g1 => by
              have s2 := s1.trans (g1.step (T := []) s1.env).st
              have s3 := s2.trans (wipe_step s2.env (σin := σ1.set j (some (.ref a))) (vs := [j]) (isNo_own hno) (by rw [List.length_set]) fun i hi => sg_set_ne fun z => hi (by simp [z]))
              have e : wipeR ρ1 [j] = ρ1 := e1
              rw [e] at s3
              exact s3
            refine ⟨C, rfl, rfl, _, (by rw [List.getElem?_set_self hjl]), rfl, c, hc, hC, F1, s1.env.sub, s1.env.tb, fun F2 H' sm => ?_⟩
            have sB := set_stepW (sA F2 H' sm) h2 (v := .str (c ++ plusS)) (A := []) ⟨_, rfl, .str _⟩ List.nodup_nil (fun b hb => nomatch hb) (fun _ => rfl) (fun b hb => nomatch hb)
            have sC := sB.trans (wipe_step sB.env (σin := ((σ1.set j (some (.ref a))).set i (some (.str (c ++ plusS)))).set j none) (vs := [j]) (isNo_own hno2) (by rw [List.length_set]) fun i hi => sg_set_ne fun z => hi (by simp [z]))
            have e : wipeR ρ2 [j] = ρ2 := e2
            rw [e] at sC
            exact P _ H' F2 _ sC
          · cases q
        · cases q
      · cases q
end
end VL

end

section
set_option Elab.async false
set_option linter.all false
set_option maxRecDepth 100000
namespace VL
open PySem PySem.Spec PyProof.Rows L2

noncomputable def okM {α : Type} (o : Option (Er α)) (P : α → Rho → Prop) : Prop := ∃ a ρ, o = some (.ok a ρ) ∧ P a ρ
noncomputable def okS (o : Option Out) (P : Out → Prop) : Prop := ∃ x, o = some x ∧ P x
noncomputable def okF (o : Option (FR × List Sl)) (P : Tr → List Sl → Prop) : Prop := ∃ t outs, o = some (.ret t, outs) ∧ P t outs
noncomputable def okR (o : Option Rho) (P : Rho → Prop) : Prop := ∃ ρ, o = some ρ ∧ P ρ
noncomputable def okO {α : Type} (o : Option α) (P : α → Prop) : Prop := ∃ a, o = some a ∧ P a
section
variable {α β : Type} {ρ : Rho}
@[simp] theorem okO_some {a : α} {P : α → Prop} : okO (some a) P ↔ P a := ⟨fun ⟨_, e, h⟩ => by cases e; exact h, fun h => ⟨_, rfl, h⟩⟩
@[simp] theorem okO_none {P : α → Prop} : okO (none : Option α) P ↔ False := ⟨fun ⟨_, e, _⟩ => (by cases e), False.elim⟩
@[simp] theorem okR_some {P : Rho → Prop} {ρ : Rho} : okR (some ρ) P ↔ P ρ := ⟨fun ⟨_, e, h⟩ => by cases e; exact h, fun h => ⟨_, rfl, h⟩⟩
@[simp] theorem okR_none {P : Rho → Prop} : okR none P ↔ False := ⟨fun ⟨_, e, _⟩ => (by cases e), False.elim⟩
@[simp] theorem okS_some {P : Out → Prop} {o : Out} : okS (some o) P ↔ P o := ⟨fun ⟨_, e, h⟩ => by cases e; exact h, fun h => ⟨_, rfl, h⟩⟩
@[simp] theorem okS_none {P : Out → Prop} : okS none P ↔ False := ⟨fun ⟨_, e, _⟩ => (by cases e), False.elim⟩
@[simp] theorem okM_ok {a : α} {P : α → Rho → Prop} : okM (some (Er.ok a ρ)) P ↔ P a ρ := ⟨fun ⟨_, _, e, h⟩ => by cases e; exact h, fun h => ⟨_, _, rfl, h⟩⟩
@[simp] theorem okM_none {P : α → Rho → Prop} : okM (none : Option (Er α)) P ↔ False := ⟨fun ⟨_, _, e, _⟩ => (by cases e), False.elim⟩
@[simp] theorem okF_some {P : Tr → List Sl → Prop} {t : Tr} {outs : List Sl} : okF (some (.ret t, outs)) P ↔ P t outs := ⟨fun ⟨_, _, e, h⟩ => by cases e; exact h, fun h => ⟨_, _, rfl, h⟩⟩
theorem okM_congr {o : Option (Er α)} {P Q : α → Rho → Prop} (h : ∀ a ρ, P a ρ ↔ Q a ρ) : okM o P ↔ okM o Q := ⟨fun ⟨a, ρ, e, p⟩ => ⟨a, ρ, e, (h a ρ).mp p⟩, fun ⟨a, ρ, e, p⟩ => ⟨a, ρ, e, (h a ρ).mpr p⟩⟩
@[simp] theorem okM_bnd {f : M α} {k : α → M β} {P : β → Rho → Prop} : okM (bnd f k ρ) P ↔ okM (f ρ) fun a ρ1 => okM (k a ρ1) P := by
  unfold bnd
  constructor
  · rintro ⟨b, ρ2, e, h⟩
    cases q : f ρ with
    | none => rw [q] at e; cases e
    | some r =>
      rw [q] at e
      cases r with
      | ok a ρ1 => exact ⟨a, ρ1, rfl, b, ρ2, e, h⟩
      | ex c ρ1 => cases e
  · rintro ⟨a, ρ1, e, b, ρ2, e2, h⟩
    exact ⟨b, ρ2, by rw [e]; exact e2, h⟩
@[simp] theorem okM_ret {a : α} {P : α → Rho → Prop} : okM (ret a ρ) P ↔ P a ρ := okM_ok
@[simp] theorem okS_E {f : M α} {k : α → MS} {P : Out → Prop} (hx : ∀ c ρ, P (.ex c ρ) ↔ False) : okS (sE f k ρ) P ↔ okM (f ρ) fun a ρ1 => okS (k a ρ1) P := by
  unfold sE
  constructor
  · rintro ⟨o, e, h⟩
    cases q : f ρ with
    | none => rw [q] at e; cases e
    | some r =>
      rw [q] at e
      cases r with
      | ok a ρ1 => exact ⟨a, ρ1, rfl, o, e, h⟩
      | ex c ρ1 => cases e; exact ((hx _ _).mp h).elim
  · rintro ⟨a, ρ1, e, o, e2, h⟩
    exact ⟨o, by rw [e]; exact e2, h⟩
theorem okS_E' {f : M α} {k : α → MS} {P : Out → Prop} (h : okM (f ρ) fun a ρ1 => okS (k a ρ1) P) : okS (sE f k ρ) P := by
  obtain ⟨a, ρ1, e, o, e2, h⟩ := h
  exact ⟨o, by unfold sE; rw [e]; exact e2, h⟩
noncomputable def nxt (h : MS) (P : Out → Prop) : Out → Prop
  | .nx ρ1 => okS (h ρ1) P
  | o => P o
@[simp] theorem nxt_nx {h : MS} {P : Out → Prop} : nxt h P (.nx ρ) ↔ okS (h ρ) P := Iff.rfl
@[simp] theorem nxt_rt {h : MS} {P : Out → Prop} {t : Tr} : nxt h P (.rt t ρ) ↔ P (.rt t ρ) := Iff.rfl
@[simp] theorem nxt_bk {h : MS} {P : Out → Prop} : nxt h P (.bk ρ) ↔ P (.bk ρ) := Iff.rfl
@[simp] theorem nxt_ct {h : MS} {P : Out → Prop} : nxt h P (.ct ρ) ↔ P (.ct ρ) := Iff.rfl
@[simp] theorem nxt_ex {h : MS} {P : Out → Prop} {c : Str} : nxt h P (.ex c ρ) ↔ P (.ex c ρ) := Iff.rfl
theorem okS_seq {g h : MS} {P : Out → Prop} : okS (sSeq g h ρ) P ↔ okS (g ρ) (nxt h P) := by
  unfold sSeq
  constructor
  · rintro ⟨o, e, p⟩
    cases q : g ρ with
    | none => rw [q] at e; cases e
    | some r =>
      rw [q] at e
      cases r with
      | nx ρ1 => exact ⟨_, rfl, o, e, p⟩
      | _ => cases e; exact ⟨_, rfl, p⟩
  · rintro ⟨r, q, p⟩
    cases r with
    | nx ρ1 =>
      obtain ⟨o, e, p⟩ := p
      exact ⟨o, by rw [q]; exact e, p⟩
    | _ => exact ⟨_, by rw [q], p⟩
theorem okM_mono {o : Option (Er α)} {P Q : α → Rho → Prop} (h : okM o P) (i : ∀ a ρ, P a ρ → Q a ρ) : okM o Q := let ⟨x, ρ, e, p⟩ := h; ⟨x, ρ, e, i x ρ p⟩
theorem okF_mono {o : Option (FR × List Sl)} {P Q : Tr → List Sl → Prop} (h : okF o P) (i : ∀ a ρ, P a ρ → Q a ρ) : okF o Q := let ⟨x, ρ, e, p⟩ := h; ⟨x, ρ, e, i x ρ p⟩
@[simp] theorem okM_cD {x : PyData} {P : Rv → Rho → Prop} : okM (cD x ρ) P ↔ P (.d x) ρ := okM_ok
theorem okM_bin1 {g : PyData → PyData → Option PyData} {x y : Rv} {P : Rv → Rho → Prop} : okM (bin1 g x y ρ) P ↔ okO (derS ρ x) fun a => okO (derS ρ y) fun b => okO (g a b) fun z => P (.d z) ρ := by
  unfold bin1
  cases derS ρ x <;> cases derS ρ y <;> simp
  rename_i a b
  cases g a b <;> simp
@[simp] theorem okM_cBin {g : PyData → PyData → Option PyData} {fa fb : M Rv} {P : Rv → Rho → Prop} : okM (cBin g fa fb ρ) P ↔ okM (fa ρ) fun x ρ1 => okM (fb ρ1) fun y ρ2 => okO (derS ρ2 x) fun a => okO (derS ρ2 y) fun b => okO (g a b) fun z => P (.d z) ρ2 := by
  unfold cBin
  simp only [okM_bnd, okM_bin1]
theorem okM_binD {g : PyData → PyData → Option Bool} {x y : Rv} {P : Bool → Rho → Prop} : okM (binD g x y ρ) P ↔ okO (der ρ x) fun a => okO (der ρ y) fun b => okO (g a b) fun z => P z ρ := by
  unfold binD
  cases der ρ x <;> cases der ρ y <;> simp
  rename_i a b
  cases g a b <;> simp
@[simp] theorem okM_cCmp {g : PyData → PyData → Option Bool} {fa fb : M Rv} {P : Bool → Rho → Prop} : okM (cCmp g fa fb ρ) P ↔ okM (fa ρ) fun x ρ1 => okM (fb ρ1) fun y ρ2 => okO (der ρ2 x) fun a => okO (der ρ2 y) fun b => okO (g a b) fun z => P z ρ2 := by
  unfold cCmp
  simp only [okM_bnd, okM_binD]
@[simp] theorem okM_cOf {f : M Bool} {P : Rv → Rho → Prop} : okM (cOf f ρ) P ↔ okM (f ρ) fun b ρ1 => P (.d (.bool b)) ρ1 := by
  unfold cOf
  simp only [okM_bnd, okM_ret]
@[simp] theorem okM_chain {g g' : PyData → PyData → Option Bool} {fa fb fc : M Rv} {P : Bool → Rho → Prop} : okM (cChain g g' fa fb fc ρ) P ↔ okM (fa ρ) fun x ρ1 => okM (fb ρ1) fun y ρ2 => okO (der ρ2 x) fun a => okO (der ρ2 y) fun b => okO (g a b) fun k =>
    if k = true then okM (fc ρ2) fun z ρ3 => okO (der ρ3 y) fun b' => okO (der ρ3 z) fun c => okO (g' b' c) fun r => P r ρ3 else P false ρ2 := by
  unfold cChain
  simp only [okM_bnd, okM_binD]
  have e : ∀ (k : Bool) (y : Rv) (ρ2 : Rho), okM ((if k = true then bnd fc fun z => binD g' y z else ret false) ρ2) P ↔ if k = true then okM (fc ρ2) fun z ρ3 => okO (der ρ3 y) fun b' => okO (der ρ3 z) fun c => okO (g' b' c) fun r => P r ρ3 else P false ρ2 := fun k y ρ2 => by
    cases k <;> simp [okM_binD]
  simp only [e]
@[simp] theorem okM_cTest {f : M Rv} {P : Bool → Rho → Prop} : okM (cTest f ρ) P ↔ okM (f ρ) fun x ρ1 => okO (asB ρ1 x) fun b => P b ρ1 := by
  unfold cTest
  rw [okM_bnd]
  refine okM_congr fun x ρ1 => ?_
  cases asB ρ1 x <;> simp
@[simp] theorem asB_d {b : Bool} : asB ρ (.d (.bool b)) = some b := rfl
@[simp] theorem okM_cNot {f : M Bool} {P : Bool → Rho → Prop} : okM (cNot f ρ) P ↔ okM (f ρ) fun b ρ1 => P (!b) ρ1 := by
  unfold cNot
  simp only [okM_bnd, okM_ret]
@[simp] theorem okM_cAnd {f g : M Bool} {P : Bool → Rho → Prop} : okM (cAnd f g ρ) P ↔ okM (f ρ) fun b ρ1 => if b = true then okM (g ρ1) P else P false ρ1 := by
  unfold cAnd
  simp only [okM_bnd]
  have e : ∀ (k : Bool) (ρ2 : Rho), okM ((if k = true then g else ret false) ρ2) P ↔ if k = true then okM (g ρ2) P else P false ρ2 := fun k ρ2 => by cases k <;> simp
  simp only [e]
@[simp] theorem okM_cOr {f g : M Bool} {P : Bool → Rho → Prop} : okM (cOr f g ρ) P ↔ okM (f ρ) fun b ρ1 => if b = true then P true ρ1 else okM (g ρ1) P := by
  unfold cOr
  simp only [okM_bnd]
  have e : ∀ (k : Bool) (ρ2 : Rho), okM ((if k = true then ret true else g) ρ2) P ↔ if k = true then P true ρ2 else okM (g ρ2) P := fun k ρ2 => by cases k <;> simp
  simp only [e]
@[simp] theorem okM_cAndV {f g : M Rv} {P : Rv → Rho → Prop} : okM (cAndV f g ρ) P ↔ okM (f ρ) fun x ρ1 => okO (asB ρ1 x) fun b => if b = true then okM (g ρ1) P else P (.d (.bool false)) ρ1 := by
  unfold cAndV
  simp only [okM_bnd, okM_cTest]
  have e : ∀ (k : Bool) (ρ2 : Rho), okM ((if k = true then g else ret (.d (.bool false))) ρ2) P ↔ if k = true then okM (g ρ2) P else P (.d (.bool false)) ρ2 := fun k ρ2 => by cases k <;> simp
  simp only [e]
@[simp] theorem okM_cOrV {f g : M Rv} {P : Rv → Rho → Prop} : okM (cOrV f g ρ) P ↔ okM (f ρ) fun x ρ1 => okO (asB ρ1 x) fun b => if b = true then P (.d (.bool true)) ρ1 else okM (g ρ1) P := by
  unfold cOrV
  simp only [okM_bnd, okM_cTest]
  have e : ∀ (k : Bool) (ρ2 : Rho), okM ((if k = true then ret (.d (.bool true)) else g) ρ2) P ↔ if k = true then P (.d (.bool true)) ρ2 else okM (g ρ2) P := fun k ρ2 => by cases k <;> simp
  simp only [e]
@[simp] theorem okM_cNotV {f : M Rv} {P : Rv → Rho → Prop} : okM (cNotV f ρ) P ↔ okM (f ρ) fun x ρ1 => okO (asB ρ1 x) fun b => P (.d (.bool (!b))) ρ1 := by
  unfold cNotV
  simp only [okM_bnd, okM_cTest, okM_ret]
@[simp] theorem okM_cIf {c : M Bool} {f g : M α} {P : α → Rho → Prop} : okM (cIf c f g ρ) P ↔ okM (c ρ) fun b ρ1 => if b = true then okM (f ρ1) P else okM (g ρ1) P := by
  unfold cIf
  simp only [okM_bnd]
  have e : ∀ (k : Bool) (ρ2 : Rho), okM ((if k = true then f else g) ρ2) P ↔ if k = true then okM (f ρ2) P else okM (g ρ2) P := fun k ρ2 => by cases k <;> simp
  simp only [e]
@[simp] theorem okM_aNil {P : List Rv → Rho → Prop} : okM (aNil ρ) P ↔ P [] ρ := okM_ok
@[simp] theorem okM_aCons {f : M Rv} {g : M (List Rv)} {P : List Rv → Rho → Prop} : okM (aCons f g ρ) P ↔ okM (f ρ) fun x ρ1 => okM (g ρ1) fun xs ρ2 => P (x :: xs) ρ2 := by
  unfold aCons
  simp only [okM_bnd, okM_ret]
@[simp] theorem okM_mkTup {rs : List Rv} {P : Rv → Rho → Prop} : okM (mkTup rs ρ) P ↔ okO (datas rs) fun ds => small ds.length = true ∧ P (.d (.tuple ds)) ρ := by
  unfold mkTup
  cases datas rs <;> simp
  split <;> simp_all
@[simp] theorem okM_cTup {f : M (List Rv)} {P : Rv → Rho → Prop} : okM (cTup f ρ) P ↔ okM (f ρ) fun rs ρ1 => okO (datas rs) fun ds => small ds.length = true ∧ P (.d (.tuple ds)) ρ1 := by
  unfold cTup
  simp only [okM_bnd, okM_mkTup]
@[simp] theorem okM_mkLst {rs : List Rv} {P : Tr → Rho → Prop} : okM (mkLst rs ρ) P ↔ okO (datas rs) fun ds => small ds.length = true ∧ P (.lst (ds.map .dat)) ρ := by
  unfold mkLst
  cases datas rs <;> simp
  split <;> simp_all
@[simp] theorem okM_nLst {f : M (List Rv)} {P : Tr → Rho → Prop} : okM (nLst f ρ) P ↔ okM (f ρ) fun rs ρ1 => okO (datas rs) fun ds => small ds.length = true ∧ P (.lst (ds.map .dat)) ρ1 := by
  unfold nLst
  simp only [okM_bnd, okM_mkLst]
@[simp] theorem okM_cFrz {f : M Tr} {P : Rv → Rho → Prop} : okM (cFrz f ρ) P ↔ okM (f ρ) fun t ρ1 => okO t.toD fun d => P (.d d) ρ1 := by
  unfold cFrz
  rw [okM_bnd]
  refine okM_congr fun t ρ1 => ?_
  cases t.toD <;> simp
noncomputable def rvd : Rv → Option PyData
  | .d d => some d
  | .o _ => none
@[simp] theorem rvd_d {d : PyData} : rvd (.d d) = some d := rfl
@[simp] theorem okM_nDat {f : M Rv} {P : Tr → Rho → Prop} : okM (nDat f ρ) P ↔ okM (f ρ) fun x ρ1 => okO (rvd x) fun d => P (.dat d) ρ1 := by
  unfold nDat
  rw [okM_bnd]
  refine okM_congr fun x ρ1 => ?_
  cases x <;> simp [rvd]
noncomputable def rvi : Rv → Option Int
  | .d (.int i) => some i
  | _ => none
@[simp] theorem rvi_d {i : Int} : rvi (.d (.int i)) = some i := rfl
@[simp] theorem okM_oNone {P : Option Int → Rho → Prop} : okM (oNone ρ) P ↔ P none ρ := okM_ok
@[simp] theorem okM_oSome {f : M Rv} {P : Option Int → Rho → Prop} : okM (oSome f ρ) P ↔ okM (f ρ) fun x ρ1 => okO (rvi x) fun i => P (some i) ρ1 := by
  unfold oSome
  rw [okM_bnd]
  refine okM_congr fun x ρ1 => ?_
  cases x with
  | o _ => simp [rvi]
  | d d => cases d <;> simp [rvi]
@[simp] theorem okM_cNeg {f : M Rv} {P : Rv → Rho → Prop} : okM (cNeg f ρ) P ↔ okM (f ρ) fun x ρ1 => okO (rvi x) fun i => P (.d (.int (-i))) ρ1 := by
  unfold cNeg
  rw [okM_bnd]
  refine okM_congr fun x ρ1 => ?_
  cases x with
  | o _ => simp [rvi]
  | d d => cases d <;> simp [rvi]
@[simp] theorem okM_cCut {f : M Rv} {fl fh : M (Option Int)} {P : Rv → Rho → Prop} : okM (cCut f fl fh ρ) P ↔ okM (f ρ) fun x ρ1 => okM (fl ρ1) fun lo ρ2 => okM (fh ρ2) fun hi ρ3 => okO (derS ρ3 x) fun d => okO (cutD d lo hi) fun z => P (.d z) ρ3 := by
  unfold cCut
  simp only [okM_bnd]
  have e : ∀ (x : Rv) (lo hi : Option Int) (ρ3 : Rho), okM (cut1 x lo hi ρ3) P ↔ okO (derS ρ3 x) fun d => okO (cutD d lo hi) fun z => P (.d z) ρ3 := fun x lo hi ρ3 => by
    unfold cut1
    cases derS ρ3 x <;> simp
    rename_i d
    cases cutD d lo hi <;> simp
  simp only [e]
@[simp] theorem okM_cCall {g : List PyData → Option PyData} {f : M (List Rv)} {P : Rv → Rho → Prop} : okM (cCall g f ρ) P ↔ okM (f ρ) fun rs ρ1 => okO (derSs ρ1 rs) fun ds => okO (g ds) fun z => P (.d z) ρ1 := by
  unfold cCall
  simp only [okM_bnd]
  have e : ∀ (rs : List Rv) (ρ3 : Rho), okM (call1 g rs ρ3) P ↔ okO (derSs ρ3 rs) fun ds => okO (g ds) fun z => P (.d z) ρ3 := fun rs ρ3 => by
    unfold call1
    cases derSs ρ3 rs <;> simp
    rename_i d
    cases g d <;> simp
  simp only [e]
@[simp] theorem okM_cIsi {B : BT} {f : M Rv} {P : Rv → Rho → Prop} : okM (cIsi B f ρ) P ↔ okM (f ρ) fun x ρ1 => okO (der ρ1 x) fun d => okO (isiD B d) fun b => P (.d (.bool b)) ρ1 := by
  unfold cIsi
  rw [okM_bnd]
  refine okM_congr fun x ρ1 => ?_
  cases der ρ1 x with
  | none => simp
  | some d => cases h : isiD B d <;> simp [h]
noncomputable def rvs : Rv → Option Str
  | .d (.str i) => some i
  | _ => none
@[simp] theorem rvs_d {i : Str} : rvs (.d (.str i)) = some i := rfl
@[simp] theorem okM_cTab {tb : List (Str × PyData)} {f : M Rv} {P : Rv → Rho → Prop} : okM (cTab tb f ρ) P ↔ okM (f ρ) fun x ρ1 => okO (rvs x) fun z => okO (tb.lookup z) fun d => P (.d d) ρ1 := by
  unfold cTab
  simp only [okM_bnd]
  have e : ∀ (x : Rv) (ρ1 : Rho), okM (tabD tb x ρ1) P ↔ okO (rvs x) fun z => okO (tb.lookup z) fun d => P (.d d) ρ1 := fun x ρ1 => by
    unfold tabD
    cases x with
    | o _ => simp [rvs]
    | d d =>
      cases d <;> simp [rvs]
      rename_i z
      cases tb.lookup z <;> simp
  simp only [e]
@[simp] theorem okM_callN {Ts : List Nat} {m : Nat} {F : Fn} {rs : List Rv} {P : Tr → Rho → Prop} : okM (callN Ts m F rs ρ) P ↔ okO (argSls ρ rs) fun args => (rs.length = m ∧ oneEach rs = true ∧ allIn Ts rs = true) ∧ okF (F args) fun t outs => backOk args (mrg args outs) = true ∧ P t (wb ρ rs (mrg args outs)) := by
  unfold callN
  cases argSls ρ rs with
  | none => simp
  | some args =>
    simp only [okO_some]
    constructor
    · rintro ⟨a, ρ1, e, h⟩
      split at e
      · rename_i hc
        simp only [Bool.and_eq_true, decide_eq_true_eq] at hc
        refine ⟨hc, ?_⟩
        split at e
        · rename_i t outs hf
          split at e
          · rename_i hb
            cases e
            exact ⟨_, _, hf, hb, h⟩
          · cases e
        · cases e
      · cases e
    · rintro ⟨hc, t, outs, hf, hb, h⟩
      refine ⟨t, _, ?_, h⟩
      rw [if_pos (by simp only [Bool.and_eq_true, decide_eq_true_eq]; exact hc), hf]
      simp only [hb, if_true]
@[simp] theorem okM_nCall {Ts : List Nat} {m : Nat} {F : Fn} {f : M (List Rv)} {P : Tr → Rho → Prop} : okM (nCall Ts m F f ρ) P ↔ okM (f ρ) fun rs ρ1 => okM (callN Ts m F rs ρ1) P := by
  unfold nCall
  simp only [okM_bnd]
noncomputable def rvx : Rv → Option (List PyData)
  | .d d => itemsOf d
  | .o _ => none
@[simp] theorem rvx_l {xs : List PyData} : rvx (.d (.list xs)) = some xs := rfl
@[simp] theorem rvx_t {xs : List PyData} : rvx (.d (.tuple xs)) = some xs := rfl
@[simp] theorem okM_iSeq {f : M Rv} {P : List PyData → Rho → Prop} : okM (iSeq f ρ) P ↔ okM (f ρ) fun x ρ1 => okO (rvx x) fun xs => P xs ρ1 := by
  unfold iSeq
  rw [okM_bnd]
  refine okM_congr fun x ρ1 => ?_
  cases x with
  | o _ => simp [rvx]
  | d d => cases h : itemsOf d <;> simp [rvx, h]
@[simp] theorem okS_nil {P : Out → Prop} : okS (sNil ρ) P ↔ P (.nx ρ) := okS_some
@[simp] theorem okS_retN {P : Out → Prop} : okS (sRetN ρ) P ↔ P (.rt (.dat .none) ρ) := okS_some
theorem okS_ret {f : M Tr} {P : Out → Prop} (h : okM (f ρ) fun t ρ1 => P (.rt t ρ1)) : okS (sRet f ρ) P := okS_E' (okM_mono h fun a ρ1 p => okS_some.mpr p)
theorem okS_putD {i : Nat} {d : PyData} {P : Out → Prop} : okS (putD i d ρ) P ↔ okR (setSl ρ i (.val d)) fun ρ1 => P (.nx ρ1) := by
  unfold putD
  cases setSl ρ i (.val d) <;> simp
theorem okS_set {i : Nat} {f : M Rv} {P : Out → Prop} (h : okM (f ρ) fun x ρ1 => okO (rvd x) fun d => okR (setSl ρ1 i (.val d)) fun ρ2 => P (.nx ρ2)) : okS (sSet i f ρ) P := by
  refine okS_E' (okM_mono h fun x ρ1 p => ?_)
  cases x with
  | d d =>
    simp only [rvd_d, okO_some] at p
    exact okS_putD.mpr p
  | o j => simp [rvd] at p
theorem okS_asg {G : MG} {f : M Rv} {P : Out → Prop} (h : okM (f ρ) fun x ρ1 => okO (rvd x) fun d => okR (G d ρ1) fun ρ2 => P (.nx ρ2)) : okS (sAsg G f ρ) P := by
  refine okS_E' (okM_mono h fun x ρ1 p => ?_)
  cases x with
  | d d =>
    simp only [rvd_d, okO_some] at p
    obtain ⟨ρ2, e, p⟩ := p
    exact ⟨_, by simp only [e, Option.map_some], p⟩
  | o j => simp [rvd] at p
theorem okS_if {c : M Bool} {g h : MS} {P : Out → Prop} (k : okM (c ρ) fun b ρ1 => if b = true then okS (g ρ1) P else okS (h ρ1) P) : okS (sIf c g h ρ) P := by
  refine okS_E' (okM_mono k fun b ρ1 p => ?_)
  cases b <;> simpa using p
noncomputable def turn (J : Rho → Prop) (P : Out → Prop) : Out → Prop
  | .nx ρ => J ρ
  | .ct ρ => J ρ
  | .bk ρ => P (.nx ρ)
  | .rt t ρ => P (.rt t ρ)
  | .ex c ρ => P (.ex c ρ)
@[simp] theorem turn_nx {J : Rho → Prop} {P : Out → Prop} : turn J P (.nx ρ) ↔ J ρ := Iff.rfl
@[simp] theorem turn_ct {J : Rho → Prop} {P : Out → Prop} : turn J P (.ct ρ) ↔ J ρ := Iff.rfl
@[simp] theorem turn_bk {J : Rho → Prop} {P : Out → Prop} : turn J P (.bk ρ) ↔ P (.nx ρ) := Iff.rfl
@[simp] theorem turn_rt {J : Rho → Prop} {P : Out → Prop} {t : Tr} : turn J P (.rt t ρ) ↔ P (.rt t ρ) := Iff.rfl
theorem okS_forL {fi : M (List PyData)} {G : MG} {body : MS} {P : Out → Prop} (h : okM (fi ρ) fun xs ρ1 => okS (loopF G body xs ρ1) P) : okS (sFor fi G body ρ) P := okS_E' h
theorem okS_loop_nil {G : MG} {body : MS} {P : Out → Prop} : okS (loopF G body [] ρ) P ↔ P (.nx ρ) := okS_some
theorem okS_loop_cons {G : MG} {body : MS} {P : Out → Prop} {x : PyData} {xs : List PyData} (h : okR (G x ρ) fun ρ1 => okS (body ρ1) (turn (fun ρ2 => okS (loopF G body xs ρ2) P) P)) : okS (loopF G body (x :: xs) ρ) P := by
  obtain ⟨ρ1, e1, o, e2, p⟩ := h
  unfold loopF
  rw [e1]
  simp only
  rw [e2]
  cases o with
  | nx ρ2 => exact p
  | ct ρ2 => exact p
  | bk ρ2 => exact ⟨_, rfl, p⟩
  | rt t ρ2 => exact ⟨_, rfl, p⟩
  | ex c ρ2 => exact ⟨_, rfl, p⟩
theorem okF_run {n : Nat} {g : MS} {args : List Sl} {P : Tr → List Sl → Prop} (h : okS (g (entry n args)) fun o => match o with
    | .nx ρ' => P (.dat .none) (ρ'.take args.length)
    | .rt t ρ' => P t (ρ'.take args.length)
    | _ => False) : okF (runF n g args) P := by
  obtain ⟨o, e, p⟩ := h
  unfold runF
  rw [e]
  cases o with
  | nx ρ' => exact ⟨_, _, rfl, p⟩
  | rt t ρ' => exact ⟨_, _, rfl, p⟩
  | bk ρ' => exact p.elim
  | ct ρ' => exact p.elim
  | ex c ρ' => exact p.elim
end
end VL

end

section
set_option Elab.async false
set_option linter.all false
set_option maxRecDepth 100000
namespace VL
open PySem PySem.Spec PyProof.Rows L2
section
variable {α β : Type} {ρ : Rho} {P : Out → Prop}
theorem okO_map {f : α → β} {o : Option α} {Q : β → Prop} : okO (o.map f) Q ↔ okO o fun a => Q (f a) := by cases o <;> simp
@[simp] theorem okO_ite {c : Prop} [Decidable c] {a : α} {Q : α → Prop} : okO (if c then some a else none) Q ↔ c ∧ Q a := by
  by_cases h : c <;> simp [h]
@[simp] theorem okO_iteO {c : Prop} [Decidable c] {a : Option α} {Q : α → Prop} : okO (if c then a else none) Q ↔ c ∧ okO a Q := by
  by_cases h : c <;> simp [h]
theorem varS {i : Nat} : cVar i ρ = match ρ[i]? with
  | some (.val d) => some (.ok (.d d) ρ)
  | some (.own _ (.dat d)) => some (.ok (.d d) ρ)
  | some (.own _ _) => some (.ok (.o i) ρ)
  | _ => none := rfl
noncomputable def rdSl (i : Nat) (s : Option Sl) : Option Rv := match s with
  | some (.val d) => some (Rv.d d)
  | some (.own _ (.dat d)) => some (.d d)
  | some (.own _ _) => some (.o i)
  | _ => none
@[simp] theorem rdSl_val {i : Nat} {d : PyData} : rdSl i (some (.val d)) = some (.d d) := rfl
@[simp] theorem rdSl_dat {i : Nat} {m : Md} {d : PyData} : rdSl i (some (.own m (.dat d))) = some (.d d) := rfl
@[simp] theorem rdSl_lst {i : Nat} {m : Md} {ts : List Tr} : rdSl i (some (.own m (.lst ts))) = some (.o i) := rfl
@[simp] theorem rdSl_tup {i : Nat} {m : Md} {ts : List Tr} : rdSl i (some (.own m (.tup ts))) = some (.o i) := rfl
@[simp] theorem rdSl_dk {i : Nat} {m : Md} {ts : List (Key × Tr)} : rdSl i (some (.own m (.dk ts))) = some (.o i) := rfl
@[simp] theorem rdSl_dt {i : Nat} {m : Md} {ts : List (List Key × Tr)} : rdSl i (some (.own m (.dt ts))) = some (.o i) := rfl
@[simp] theorem okM_var_val {i : Nat} {Q : Rv → Rho → Prop} : okM (cVar i ρ) Q ↔ okO (rdSl i ρ[i]?) fun r => Q r ρ := by
  rw [varS]
  unfold rdSl
  split <;> simp
@[simp] theorem derS_d {d : PyData} : derS ρ (.d d) = some d := rfl
@[simp] theorem der_d {d : PyData} : der ρ (.d d) = some d := rfl
noncomputable def dsSl (s : Option Sl) : Option PyData := match s with
    | some (.own _ (.lst ts)) => (flat ts).map .list
    | _ => none
noncomputable def drSl (s : Option Sl) : Option PyData := match s with
    | some (.own _ t) => t.toD
    | _ => none
@[simp] theorem dsSl_lst {m : Md} {ts : List Tr} : dsSl (some (.own m (.lst ts))) = (flat ts).map .list := rfl
@[simp] theorem drSl_own {m : Md} {t : Tr} : drSl (some (.own m t)) = t.toD := rfl
@[simp] theorem derS_o {i : Nat} : derS ρ (.o i) = dsSl ρ[i]? := rfl
@[simp] theorem der_o {i : Nat} : der ρ (.o i) = drSl ρ[i]? := rfl
@[simp] theorem flat_nil : flat [] = some [] := rfl
@[simp] theorem flat_cons {d : PyData} {ts : List Tr} : flat (.dat d :: ts) = (flat ts).map (d :: ·) := rfl
@[simp] theorem flat_map {ds : List PyData} : flat (ds.map .dat) = some ds := flat_dat ds
@[simp] theorem toD_dat {d : PyData} : (Tr.dat d).toD = some d := by simp [Tr.toD]
@[simp] theorem toDs_map : ∀ {ds : List PyData}, Tr.toDs (ds.map .dat) = some ds
  | [] => by simp [Tr.toDs]
  | d :: ds => by simp [Tr.toDs, toDs_map (ds := ds)]
@[simp] theorem toDs_nil : Tr.toDs [] = some [] := by simp [Tr.toDs]
@[simp] theorem toDs_cons {d : PyData} {ts : List Tr} : Tr.toDs (.dat d :: ts) = (Tr.toDs ts).map (d :: ·) := by
  simp only [Tr.toDs, toD_dat]
  cases Tr.toDs ts <;> simp
@[simp] theorem toD_lst {ts : List Tr} : (Tr.lst ts).toD = (Tr.toDs ts).map .list := by simp [Tr.toD]
@[simp] theorem toD_tup {ts : List Tr} : (Tr.tup ts).toD = (Tr.toDs ts).map .tuple := by simp [Tr.toD]
@[simp] theorem asB_b {b : Bool} {r : Rv} (h : r = .d (.bool b)) : asB ρ r = some b := by rw [h]; rfl
@[simp] theorem datas_nil : datas [] = some [] := rfl
@[simp] theorem datas_cons {d : PyData} {rs : List Rv} : datas (.d d :: rs) = (datas rs).map (d :: ·) := rfl
theorem small_of {n : Nat} (h : n ≤ 16777216) : small n = true := small_iff.mpr (by rw [sizeLine_eq]; exact h)
@[simp] theorem small_lit {n : Nat} (h : n ≤ 16777216) : small n = true := small_of h
theorem lt_lim {i : Int} (h : -18446744073709551616 ≤ i) (h2 : i ≤ 18446744073709551616) : i.natAbs < lim := by
  have e : 18446744073709551616 < lim := by decide +kernel
  omega
@[simp] theorem addD_i {i j : Int} : addD (.int i) (.int j) = some (.int (i + j)) := rfl
@[simp] theorem subtD_i {i j : Int} : subtD (.int i) (.int j) = some (.int (i - j)) := rfl
theorem mulD_i {i j : Int} : mulD (.int i) (.int j) = if i.natAbs < lim ∧ j.natAbs < lim then some (.int (i * j)) else none := rfl
@[simp] theorem okO_mulD {i j : Int} {Q : PyData → Prop} : okO (mulD (.int i) (.int j)) Q ↔ (i.natAbs < lim ∧ j.natAbs < lim) ∧ Q (.int (i * j)) := by rw [mulD_i, okO_ite]
@[simp] theorem okO_modD {i j : Int} {Q : PyData → Prop} : okO (modD (.int i) (.int j)) Q ↔ 0 < j ∧ Q (.int (i % j)) := by
  show okO (if 0 < j then some (.int (i % j)) else none) Q ↔ _
  rw [okO_ite]
@[simp] theorem okO_fdivD {i j : Int} {Q : PyData → Prop} : okO (fdivD (.int i) (.int j)) Q ↔ (0 < j ∧ j.natAbs < lim) ∧ Q (.int (i / j)) := by
  show okO (if 0 < j ∧ j.natAbs < lim then some (.int (i / j)) else none) Q ↔ _
  rw [okO_ite]
@[simp] theorem okO_powD {i j : Int} {Q : PyData → Prop} : okO (powD (.int i) (.int j)) Q ↔ (0 ≤ j ∧ j ≤ 1000 ∧ i.natAbs < 1000000) ∧ Q (.int (i ^ j.toNat)) := by
  show okO (if 0 ≤ j ∧ j ≤ 1000 ∧ i.natAbs < 1000000 then some (.int (i ^ j.toNat)) else none) Q ↔ _
  rw [okO_ite]
@[simp] theorem icmp_i {p : Int → Int → Bool} {i j : Int} : icmp p (.int i) (.int j) = some (p i j) := rfl
@[simp] theorem addD_t {xs ys : List PyData} {Q : PyData → Prop} : okO (addD (.tuple xs) (.tuple ys)) Q ↔ small (xs.length + ys.length) = true ∧ Q (.tuple (xs ++ ys)) := by
  show okO (if small (xs.length + ys.length) then some (.tuple (xs ++ ys)) else none) Q ↔ _
  rw [okO_ite]
@[simp] theorem addD_l {xs ys : List PyData} {Q : PyData → Prop} : okO (addD (.list xs) (.list ys)) Q ↔ small (xs.length + ys.length) = true ∧ Q (.list (xs ++ ys)) := by
  show okO (if small (xs.length + ys.length) then some (.list (xs ++ ys)) else none) Q ↔ _
  rw [okO_ite]
@[simp] theorem subD_l {xs : List PyData} {i : Int} : subD (.list xs) (.int i) = atI xs i := rfl
@[simp] theorem subD_t {xs : List PyData} {i : Int} : subD (.tuple xs) (.int i) = atI xs i := rfl
@[simp] theorem subD_s {xs : List Int} {i : Int} : subD (scrD xs) (.int i) = (atI xs i).map .int := by
  show (atI (xs.map fun i => (PyData.int i, PyData.none)) i).map (·.1) = _
  rw [atI_map, Option.map_map]
  rfl
@[simp] theorem cutD_l {xs : List PyData} {lo hi : Option Int} : cutD (.list xs) lo hi = some (.list (cutL xs lo hi)) := rfl
@[simp] theorem cutD_t {xs : List PyData} {lo hi : Option Int} : cutD (.tuple xs) lo hi = some (.tuple (cutL xs lo hi)) := rfl
@[simp] theorem derSs_nil : derSs ρ [] = some [] := rfl
@[simp] theorem derSs_cons {r : Rv} {rs : List Rv} : derSs ρ (r :: rs) = match derS ρ r, derSs ρ rs with
  | some d, some ds => some (d :: ds)
  | _, _ => none := rfl
@[simp] theorem lenD_l {xs : List PyData} : lenD [.list xs] = some (.int xs.length) := rfl
@[simp] theorem lenD_t {xs : List PyData} : lenD [.tuple xs] = some (.int xs.length) := rfl
@[simp] theorem lenD_s {xs : List Int} : lenD [scrD xs] = some (.int xs.length) := by
  show some (PyData.int (xs.map fun i => (PyData.int i, PyData.none)).length) = _
  rw [List.length_map]
@[simp] theorem absD_i {i : Int} : absD [.int i] = some (.int (if i < 0 then -i else i)) := rfl
@[simp] theorem min2D_i {i j : Int} : min2D [.int i, .int j] = some (.int (if j < i then j else i)) := rfl
@[simp] theorem max2D_i {i j : Int} : max2D [.int i, .int j] = some (.int (if j > i then j else i)) := rfl
@[simp] theorem intD_i {i : Int} : intD [.int i] = some (.int i) := rfl
@[simp] theorem intD_b {b : Bool} : intD [.bool b] = some (.int (if b then 1 else 0)) := rfl
@[simp] theorem tupleD_l {xs : List PyData} : tupleD [.list xs] = some (.tuple xs) := rfl
@[simp] theorem tupleD_t {xs : List PyData} : tupleD [.tuple xs] = some (.tuple xs) := rfl
@[simp] theorem listD_l {xs : List PyData} : listD [.list xs] = some (.list xs) := rfl
@[simp] theorem listD_t {xs : List PyData} : listD [.tuple xs] = some (.list xs) := rfl
@[simp] theorem pinS_val {d : PyData} : pinS (.val d) = .val d := rfl
@[simp] theorem pinS_no : pinS .no = .no := rfl
@[simp] theorem pinS_free {t : Tr} : pinS (.own .free t) = .own .pin t := rfl
@[simp] theorem pinS_pin {t : Tr} : pinS (.own .pin t) = .own .pin t := rfl
@[simp] theorem pinS_lock {t : Tr} : pinS (.own .lock t) = .own .lock t := rfl
@[simp] theorem arg_free : Md.arg .free = .free := rfl
@[simp] theorem arg_pin : Md.arg .pin = .pin := rfl
@[simp] theorem arg_lock : Md.arg .lock = .lock := rfl
@[simp] theorem arg_bor {p : List Nat} : Md.arg (.bor p) = .lock := rfl
@[simp] theorem unb_free : Md.unb .free = .free := rfl
@[simp] theorem unb_pin : Md.unb .pin = .pin := rfl
@[simp] theorem unb_lock : Md.unb .lock = .lock := rfl
@[simp] theorem unb_bor {p : List Nat} : Md.unb (.bor p) = .pin := rfl
noncomputable def Md.ow : Md → Bool
  | .free => true
  | .pin => true
  | _ => false
@[simp] theorem ow_free : Md.ow .free = true := rfl
@[simp] theorem ow_pin : Md.ow .pin = true := rfl
theorem ow_arg : ∀ {m : Md}, m.ow = true → m.arg = m
  | .free, _ => rfl
  | .pin, _ => rfl
@[simp] theorem argSls_nil : argSls ρ [] = some [] := rfl
@[simp] theorem argSls_d {d : PyData} {rs : List Rv} : argSls ρ (.d d :: rs) = (argSls ρ rs).map (.val d :: ·) := by
  simp only [argSls, argSl]
  cases argSls ρ rs <;> rfl
@[simp] theorem argSls_o {i : Nat} {rs : List Rv} : argSls ρ (.o i :: rs) = match ρ[i]? with
    | some (.own m t) => (argSls ρ rs).map (.own m.arg t :: ·)
    | _ => none := by
  simp only [argSls, argSl]
  cases h : ρ[i]? with
  | none => rfl
  | some s => cases s <;> (try rfl); cases argSls ρ rs <;> rfl
@[simp] theorem oneEach_nil : oneEach [] = true := rfl
@[simp] theorem oneEach_d {d : PyData} {rs : List Rv} : oneEach (.d d :: rs) = oneEach rs := rfl
@[simp] theorem oneEach_o {j : Nat} {rs : List Rv} : oneEach (.o j :: rs) = ((posOf rs j).isNone && oneEach rs) := rfl
@[simp] theorem posOf_nil {i : Nat} : posOf [] i = none := rfl
@[simp] theorem posOf_d {d : PyData} {rs : List Rv} {i : Nat} : posOf (.d d :: rs) i = (posOf rs i).map (· + 1) := rfl
@[simp] theorem posOf_o {j : Nat} {rs : List Rv} {i : Nat} : posOf (.o j :: rs) i = if j = i then some 0 else (posOf rs i).map (· + 1) := rfl
@[simp] theorem allIn_nil {Ts : List Nat} : allIn Ts [] = true := rfl
@[simp] theorem allIn_d {Ts : List Nat} {d : PyData} {rs : List Rv} : allIn Ts (.d d :: rs) = allIn Ts rs := rfl
@[simp] theorem allIn_o {Ts : List Nat} {j : Nat} {rs : List Rv} : allIn Ts (.o j :: rs) = (Ts.contains j && allIn Ts rs) := rfl
@[simp] theorem mrg_nil {os : List Sl} : mrg [] os = [] := rfl
@[simp] theorem mrg_val {d : PyData} {as os : List Sl} : mrg (.val d :: as) os = .val d :: mrg as os.tail := rfl
@[simp] theorem mrg_own {m m' : Md} {t t' : Tr} {as os : List Sl} : mrg (.own m t :: as) (.own m' t' :: os) = .own m'.unb t' :: mrg as os := rfl
@[simp] theorem backOk_nil {os : List Sl} : backOk [] os = true := rfl
@[simp] theorem backOk_own {m m' : Md} {t t' : Tr} {as os : List Sl} : backOk (.own m t :: as) (.own m' t' :: os) = backOk as os := rfl
@[simp] theorem backOk_val {d : PyData} {s : Sl} {as os : List Sl} : backOk (.val d :: as) (s :: os) = backOk as os := rfl
@[simp] theorem wb_eq {rs : List Rv} {os : List Sl} : wb ρ rs os = wbGo rs os 0 ρ := rfl
@[simp] theorem wbGo_nil {rs : List Rv} {os : List Sl} {i : Nat} : wbGo rs os i [] = [] := rfl
@[simp] theorem wbGo_cons {rs : List Rv} {os : List Sl} {i : Nat} {s : Sl} : wbGo rs os i (s :: ρ) = (match posOf rs i with
    | some k => wb1 s os[k]?
    | none => s) :: wbGo rs os (i + 1) ρ := rfl
@[simp] theorem wb1_own {m m' : Md} {t t' : Tr} : wb1 (.own m t) (some (.own m' t')) = .own m t' := rfl
theorem wbGo_no {rs : List Rv} {os : List Sl} (h : ∀ i, posOf rs i = none) : ∀ {ρ : Rho} {i : Nat}, wbGo rs os i ρ = ρ
  | [], _ => rfl
  | s :: ρ, i => by rw [wbGo_cons, h, wbGo_no h]
noncomputable def frB : Option Sl → Bool
  | some (.own .pin _) => false
  | some (.own .lock _) => false
  | some (.own (.bor _) _) => false
  | some _ => true
  | none => false
@[simp] theorem frB_al {i : Nat} {p : List Nat} : frB (some (.al i p)) = true := rfl
@[simp] theorem frB_bor {p : List Nat} {t : Tr} : frB (some (.own (.bor p) t)) = false := rfl
@[simp] theorem frB_no : frB (some .no) = true := rfl
@[simp] theorem frB_val {d : PyData} : frB (some (.val d)) = true := rfl
@[simp] theorem frB_free {t : Tr} : frB (some (.own .free t)) = true := rfl
@[simp] theorem frB_pin {t : Tr} : frB (some (.own .pin t)) = false := rfl
@[simp] theorem frB_lock {t : Tr} : frB (some (.own .lock t)) = false := rfl
@[simp] theorem setSl_eq {i : Nat} {s : Sl} : setSl ρ i s = if frB ρ[i]? = true then some (ρ.set i s) else none := by
  unfold setSl
  cases h : ρ[i]? with
  | none => rfl
  | some x =>
    cases x with
    | no => rfl
    | al _ _ => rfl
    | val d => rfl
    | own m t => cases m <;> rfl
@[simp] theorem okR_ite {c : Prop} [Decidable c] {a : Rho} {Q : Rho → Prop} : okR (if c then some a else none) Q ↔ c ∧ Q a := by
  by_cases h : c <;> simp [h]
@[simp] theorem gN_eq {i : Nat} {d : PyData} : gN i d ρ = setSl ρ i (.val d) := rfl
@[simp] theorem gT_eq {n : Nat} {Gs : MGs} {ds : List PyData} : gT n Gs (.tuple ds) ρ = if ds.length = n then Gs ds ρ else none := rfl
@[simp] theorem gsN_eq : gsN [] ρ = some ρ := rfl
@[simp] theorem gsC_eq {G : MG} {Gs : MGs} {d : PyData} {r : List PyData} : gsC G Gs (d :: r) ρ = match G d ρ with
    | some ρ1 => Gs r ρ1
    | none => none := rfl
@[simp] theorem okM_pVar {i : Nat} {Q : Nat × List Nat → Rho → Prop} : okM (pVar i ρ) Q ↔ okO (match ρ[i]? with
  | some (.own _ _) => some (i, ([] : List Nat))
  | _ => none) fun r => Q r ρ := by
  unfold pVar
  cases h : ρ[i]? with
  | none => simp
  | some s => cases s <;> simp
@[simp] theorem treeAt_eq {i : Nat} {p : List Nat} : treeAt ρ (i, p) = match ρ[i]? with
  | some (.own _ t) => t.at p
  | _ => none := rfl
@[simp] theorem at_nil {t : Tr} : t.at [] = some t := by cases t <;> rfl
@[simp] theorem at_cons {t : Tr} {j : Nat} {p : List Nat} : t.at (j :: p) = match (kids t)[j]? with
    | some k => k.at p
    | none => none := by cases t <;> rfl
@[simp] theorem put_nil {t t' : Tr} : t.put [] t' = t' := by cases t <;> rfl
@[simp] theorem put_cons {t t' : Tr} {j : Nat} {p : List Nat} : t.put (j :: p) t' = match (kids t)[j]? with
    | some k => setKid t j (k.put p t')
    | none => t := by cases t <;> rfl
@[simp] theorem kids_lst {ts : List Tr} : kids (.lst ts) = ts := rfl
@[simp] theorem kids_tup {ts : List Tr} : kids (.tup ts) = ts := rfl
@[simp] theorem setKid_lst {ts : List Tr} {j : Nat} {t : Tr} : setKid (.lst ts) j t = .lst (ts.set j t) := rfl
@[simp] theorem modeOk_eq {i : Nat} : modeOk ρ i = match ρ[i]? with
  | some (.own m _) => m.ow
  | _ => false := by
  unfold modeOk
  cases ρ[i]? with
  | none => rfl
  | some s => cases s with
    | own m t => cases m <;> rfl
    | _ => rfl
@[simp] theorem putAt_eq {i : Nat} {p : List Nat} {t' : Tr} : putAt ρ (i, p) t' = match ρ[i]? with
  | some (.own m t) => ρ.set i (.own m (t.put p t'))
  | _ => ρ := rfl
@[simp] theorem isLst_l {ts : List Tr} : isLst (some (.lst ts)) = true := rfl
@[simp] theorem okM_cLeaf {f : M (Nat × List Nat)} {Q : Rv → Rho → Prop} : okM (cLeaf f ρ) Q ↔ okM (f ρ) fun r ρ1 => okO (match treeAt ρ1 r with
  | some (.dat d) => some (Rv.d d)
  | _ => none) fun x => Q x ρ1 := by
  unfold cLeaf
  rw [okM_bnd]
  refine okM_congr fun r ρ1 => ?_
  split <;> simp_all
@[simp] theorem okM_cRev {f : M Rv} {Q : Rv → Rho → Prop} : okM (cRev f ρ) Q ↔ okM (f ρ) fun x ρ1 => okO (match x with
  | .d (.tuple ds) => some (Rv.d (.tuple ds.reverse))
  | _ => none) fun y => Q y ρ1 := by
  unfold cRev
  rw [okM_bnd]
  refine okM_congr fun x ρ1 => ?_
  unfold rev1
  split <;> simp_all
@[simp] theorem okM_cCnt {fo fe : M Rv} {Q : Rv → Rho → Prop} : okM (cCnt fo fe ρ) Q ↔ okM (fo ρ) fun x ρ1 => okO (match x with
  | .d (.list ds) => some ds
  | _ => none) fun ds => okM (fe ρ1) fun y ρ2 => okO (rvd y) fun e => (flatD e && ds.all flatD) = true ∧ Q (.d (.int (ds.countP (fun z => PyData.eqv z e) : Nat))) ρ2 := by
  unfold cCnt
  rw [okM_bnd]
  refine okM_congr fun x ρ1 => ?_
  split
  · rename_i ds
    simp only [okO_some]
    rw [okM_bnd]
    refine okM_congr fun y ρ2 => ?_
    unfold cCnt1
    cases y with
    | o i => simp [rvd]
    | d e =>
      simp only [rvd_d, okO_some]
      by_cases h : (flatD e && ds.all flatD) = true
      · rw [if_pos h]
        simp [h]
      · rw [if_neg h]
        simp [h]
  · simp_all
@[simp] theorem okM_cDIn {neg : Bool} {fk : M Rv} {f : M (Nat × List Nat)} {Q : Bool → Rho → Prop} : okM (cDIn neg fk f ρ) Q ↔ okM (fk ρ) fun y ρ1 => okM (f ρ1) fun r ρ2 => okO (rvd y) fun d => okO (treeAt ρ2 r) fun t => okO (dictAt t d) fun z => Q (if neg then !z.isSome else z.isSome) ρ2 := by
  unfold cDIn
  rw [okM_bnd]
  refine okM_congr fun y ρ1 => ?_
  rw [okM_bnd]
  refine okM_congr fun r ρ2 => ?_
  unfold dIn1
  cases y with
  | o i => simp [rvd]
  | d d =>
    cases h : treeAt ρ2 r with
    | none => simp
    | some t =>
      simp only [rvd_d, okO_some]
      cases h2 : dictAt t d <;> simp
@[simp] theorem okM_cDGet {T2 : List Nat} {f : M (Nat × List Nat)} {fk : M Rv} {Q : Rv → Rho → Prop} : okM (cDGet T2 f fk ρ) Q ↔ okM (f ρ) fun r ρ1 => okM (fk ρ1) fun y ρ2 => T2.contains r.1 = false ∧ okO (rvd y) fun d => okO (treeAt ρ2 r) fun t => okO (dictAt t d) fun z => okO z fun z => Q (.d z) ρ2 := by
  unfold cDGet
  rw [okM_bnd]
  refine okM_congr fun r ρ1 => ?_
  rw [okM_bnd]
  refine okM_congr fun y ρ2 => ?_
  unfold dGet1
  by_cases hc : T2.contains r.1 = true
  · rw [if_pos hc, hc]
    simp
  · have hc' : T2.contains r.1 = false := by simpa using hc
    rw [if_neg hc]
    simp only [hc', true_and]
    cases y with
    | o i => simp [rvd]
    | d d =>
      cases h : treeAt ρ2 r with
      | none => simp
      | some t =>
        simp only [rvd_d, okO_some]
        cases h2 : dictAt t d with
        | none => simp
        | some z => cases z <;> simp
@[simp] theorem okM_cDGet2 {T2 : List Nat} {f : M (Nat × List Nat)} {fk fx : M Rv} {Q : Rv → Rho → Prop} : okM (cDGet2 T2 f fk fx ρ) Q ↔ okM (f ρ) fun r ρ1 => isDk (treeAt ρ1 r) = true ∧ okM (fk ρ1) fun y ρ2 => okM (fx ρ2) fun x ρ3 => T2.contains r.1 = false ∧ okO (rvd y) fun d => okO (rvd x) fun u => okO (treeAt ρ3 r) fun t => okO (dictAt t d) fun z => Q (.d (z.getD u)) ρ3 := by
  unfold cDGet2
  rw [okM_bnd]
  refine okM_congr fun r ρ1 => ?_
  by_cases hd : isDk (treeAt ρ1 r) = true
  · rw [if_pos hd]
    simp only [hd, true_and]
    rw [okM_bnd]
    refine okM_congr fun y ρ2 => ?_
    rw [okM_bnd]
    refine okM_congr fun x ρ3 => ?_
    unfold dGet2
    by_cases hc : T2.contains r.1 = true
    · rw [if_pos hc, hc]
      simp
    · have hc' : T2.contains r.1 = false := by simpa using hc
      rw [if_neg hc]
      simp only [hc', true_and]
      cases y with
      | o i => simp [rvd]
      | d d =>
        cases x with
        | o i => simp [rvd]
        | d u =>
          cases h : treeAt ρ3 r with
          | none => simp
          | some t =>
            simp only [rvd_d, okO_some]
            cases h2 : dictAt t d <;> simp
  · rw [if_neg hd]
    simp [hd]
@[simp] theorem okM_nNew {t : Tr} {Q : Tr → Rho → Prop} : okM (nNew t ρ) Q ↔ Q t ρ := okM_ok
theorem okS_setIx {T2 : List Nat} {fe fi : M Rv} {f : M (Nat × List Nat)} (h : okM (fe ρ) fun x ρ1 => okO (rvd x) fun d => okM (f ρ1) fun r ρ2 => okM (fi ρ2) fun y ρ3 => (T2.contains r.1 = false ∧ modeOk ρ3 r.1 = true) ∧ okO (rvi y) fun n => ∃ ts, treeAt ρ3 r = some (.lst ts) ∧ okO (ixN ts.length n) fun j => P (.nx (putAt ρ3 r (.lst (ts.set j (.dat d)))))) : okS (sSetIx T2 fe f fi ρ) P := by
  refine okS_E' (okM_mono h fun x ρ1 p => ?_)
  cases x with
  | o i => simp [rvd] at p
  | d d =>
    simp only [rvd_d, okO_some] at p
    refine okS_E' (okM_mono p fun r ρ2 p => ?_)
    refine okS_E' (okM_mono p fun y ρ3 p => ?_)
    obtain ⟨⟨p1, p2⟩, n, hn, ts, p3, j, p4, p5⟩ := p
    unfold setIx1
    simp only [p1, p2, Bool.not_true, Bool.or_false, Bool.false_eq_true, if_false]
    rw [p3]
    have hy : y = .d (.int n) := by
      cases y with
      | o _ => cases hn
      | d y => cases y <;> cases hn; rfl
    subst hy
    simp only [p4]
    exact okS_some.mpr p5
@[simp] theorem okS_retV {i : Nat} : okS (sRetV i ρ) P ↔ okO (match ρ[i]? with
  | some (.val d) => some (Out.rt (.dat d) ρ)
  | some (.own .free t) => some (.rt t (ρ.set i .no))
  | _ => none) P := Iff.rfl
@[simp] theorem okS_bk : okS (sBk ρ) P ↔ P (.bk ρ) := okS_some
@[simp] theorem okS_ct : okS (sCt ρ) P ↔ P (.ct ρ) := okS_some
@[simp] theorem frzSl_eq {i : Nat} : frzSl ρ i = match ρ[i]? with
  | some (.own .free t) => (t.toD).map fun d => ρ.set i (.val d)
  | some (.val _) => some ρ
  | _ => none := rfl
@[simp] theorem okM_iEnumD {f : M (List Rv)} {Q : List PyData → Rho → Prop} : okM (iEnumD f ρ) Q ↔ okM (f ρ) fun rs ρ1 => okO (match rs with
  | [.d (.list xs)] => some (enumD xs)
  | [.d (.tuple xs)] => some (enumD xs)
  | _ => none) fun xs => Q xs ρ1 := by
  unfold iEnumD
  rw [okM_bnd]
  refine okM_congr fun rs ρ1 => ?_
  split <;> simp
@[simp] theorem okM_iZipD {f : M (List Rv)} {Q : List PyData → Rho → Prop} : okM (iZipD f ρ) Q ↔ okM (f ρ) fun rs ρ1 => okO (match rs with
  | [.d (.list xs), .d (.list ys)] => some (zipD xs ys)
  | [.d (.tuple xs), .d (.tuple ys)] => some (zipD xs ys)
  | _ => none) fun xs => Q xs ρ1 := by
  unfold iZipD
  rw [okM_bnd]
  refine okM_congr fun rs ρ1 => ?_
  split <;> simp
theorem okM_comp {fi : M (List PyData)} {vs : List Nat} {G : MG} {tt : M Bool} {te : M Rv} {Q : Tr → Rho → Prop} (h : okM (fi ρ) fun xs ρ1 => noOwn ρ1 vs = true ∧ okO (compGo vs G tt te xs [] (wipeR ρ1 vs)) fun p => noOwn p.2 vs = true ∧ Q (.lst (p.1.map .dat)) (restR ρ1 p.2 vs)) : okM (nComp fi vs G tt te ρ) Q := by
  unfold nComp
  rw [okM_bnd]
  refine okM_mono h fun xs ρ1 p => ?_
  obtain ⟨p1, ⟨ds, ρ2⟩, e, p2, p3⟩ := p
  unfold comp1
  rw [if_pos p1, e]
  simp only [p2, if_true]
  exact okM_ok.mpr p3
theorem compGo_pure {vs : List Nat} {G : MG} {tt : M Bool} {te : M Rv} {ρ0 : Rho} (p : PyData → Bool) (f : PyData → PyData) : ∀ (xs acc : List PyData), (acc.length + xs.length ≤ 16777216) → (∀ x ∈ xs, okR (G x ρ0) fun ρ1 => okM (tt ρ1) fun b ρ2 => b = p x ∧ if b = true then okM (te ρ2) fun r ρ3 => r = .d (f x) ∧ noOwn ρ3 vs = true ∧ wipeR ρ3 vs = ρ0 else noOwn ρ2 vs = true ∧ wipeR ρ2 vs = ρ0) →
    compGo vs G tt te xs acc ρ0 = some (acc ++ (xs.filter p).map f, ρ0)
  | [], acc, _, _ => by simp [compGo]
  | x :: xs, acc, hl, h => by
    have again := fun acc' hl' => compGo_pure (vs := vs) (G := G) (tt := tt) (te := te) (ρ0 := ρ0) p f xs acc' hl' fun y hy => h y (List.mem_cons_of_mem _ hy)
    obtain ⟨ρ1, e1, b, ρ2, e2, hb, p2⟩ := h x (List.mem_cons_self)
    unfold compGo
    rw [e1]
    simp only
    rw [e2]
    simp only [List.length_cons] at hl
    cases b with
    | true =>
      obtain ⟨r, ρ3, e3, rfl, p3, p4⟩ := (by simpa using p2 : okM (te ρ2) _)
      simp only [e3, p3, p4, small_of (show acc.length + 1 ≤ 16777216 by omega), Bool.and_self, if_true]
      rw [again (acc ++ [f x]) (by simp; omega)]
      simp [List.filter_cons, ← hb]
    | false =>
      obtain ⟨p3, p4⟩ := (by simpa using p2 : noOwn ρ2 vs = true ∧ wipeR ρ2 vs = ρ0)
      simp only [p3, p4, if_true]
      rw [again acc (by omega)]
      simp [List.filter_cons, ← hb]
@[simp] theorem noOwn_nil : noOwn ρ [] = true := rfl
@[simp] theorem noOwn_cons {i : Nat} {vs : List Nat} : noOwn ρ (i :: vs) = ((match ρ[i]? with
    | some (.own _ _) => false
    | some (.al _ _) => false
    | _ => true) && noOwn ρ vs) := rfl
@[simp] theorem wipeR_nil : wipeR ρ [] = ρ := rfl
@[simp] theorem wipeR_cons {i : Nat} {vs : List Nat} : wipeR ρ (i :: vs) = (wipeR ρ vs).set i .no := rfl
@[simp] theorem restR_nil {ρ0 : Rho} : restR ρ0 ρ [] = ρ := rfl
@[simp] theorem restR_cons {ρ0 : Rho} {i : Nat} {vs : List Nat} : restR ρ0 ρ (i :: vs) = match ρ0[i]? with
    | some s => (restR ρ0 ρ vs).set i s
    | none => restR ρ0 ρ vs := rfl
@[simp] theorem okM_tYes {Q : Bool → Rho → Prop} : okM (tYesM ρ) Q ↔ Q true ρ := okM_ok
@[simp] theorem okM_cListZip {f : M (List Rv)} {Q : Rv → Rho → Prop} : okM (cListZip f ρ) Q ↔ okM (f ρ) fun rs ρ1 => okM (lzip1 rs ρ1) Q := by
  unfold cListZip
  rw [okM_bnd]
@[simp] theorem okM_lzip1 {x y : Rv} {Q : Rv → Rho → Prop} : okM (lzip1 [x, y] ρ) Q ↔ ∃ ds es, derS ρ x = some (.list ds) ∧ derS ρ y = some (.list es) ∧ ds.length = es.length ∧ Q (.d (.list (zipP ds es))) ρ := by
  unfold lzip1
  simp only
  constructor
  · intro h
    split at h
    · rename_i ds es h1 h2
      split at h
      · rename_i hl
        exact ⟨ds, es, h1, h2, hl, okM_ok.mp h⟩
      · exact (okM_none.mp h).elim
    · exact (okM_none.mp h).elim
  · rintro ⟨ds, es, h1, h2, hl, q⟩
    simp only [h1, h2, hl, if_true]
    exact okM_ok.mpr q
@[simp] theorem okM_nRep {fa fb : M Rv} {Q : Tr → Rho → Prop} : okM (nRep fa fb ρ) Q ↔ okM (fa ρ) fun x ρ1 => okM (fb ρ1) fun y ρ2 => okM (rep1 x y ρ2) Q := by
  unfold nRep
  simp only [okM_bnd]
@[simp] theorem okM_rep1 {ds : List PyData} {k : Int} {Q : Tr → Rho → Prop} : okM (rep1 (.d (.list ds)) (.d (.int k)) ρ) Q ↔ repOk ds k = true ∧ Q (.lst ((repL ds k).map .dat)) ρ := by
  unfold rep1
  simp only [derS_d]
  by_cases h : repOk ds k = true
  · rw [if_pos h]; simp [h]
  · rw [if_neg h]; simp [h]
@[simp] theorem okO_repD {ds : List PyData} {k : Int} {Q : PyData → Prop} : okO (repD (.list ds) (.int k)) Q ↔ repOk ds k = true ∧ Q (.list (repL ds k)) := by
  show okO (if repOk ds k then some (.list (repL ds k)) else none) Q ↔ _
  rw [okO_ite]
@[simp] theorem okO_sortedD {ds : List PyData} {Q : PyData → Prop} : okO (sortedD [.list ds]) Q ↔ sortOk ds = true ∧ Q (.list (sortL ds)) := by
  show okO (if sortOk ds then some (.list (sortL ds)) else none) Q ↔ _
  rw [okO_ite]
@[simp] theorem okO_sumD {ds : List PyData} {Q : PyData → Prop} : okO (sumD [.list ds]) Q ↔ okO (intsD ds) fun ns => Q (.int ns.sum) := by
  show okO ((intsD ds).map fun ns => .int ns.sum) Q ↔ _
  rw [okO_map]
@[simp] theorem intsD_map {ns : List Int} : intsD (ns.map .int) = some ns := by
  induction ns with
  | nil => rfl
  | cons n ns ih => simp [intsD, ih]
@[simp] theorem okM_iOwn {i : Nat} {Q : List PyData → Rho → Prop} : okM (iOwn i ρ) Q ↔ okO (match ρ[i]? with
  | some (.own _ (.lst ts)) => flat ts
  | _ => none) fun xs => Q xs ρ := by
  unfold iOwn
  cases h : ρ[i]? with
  | none => simp
  | some s =>
    cases s with
    | no => simp
    | al _ _ => simp
    | val d => simp
    | own m t =>
      cases t with
      | lst ts => cases hf : flat ts <;> simp [hf]
      | _ => simp
@[simp] theorem okM_nListZip {f : M (List Rv)} {Q : Tr → Rho → Prop} : okM (nListZip f ρ) Q ↔ okM (f ρ) fun rs ρ1 => okM (nzip1 rs ρ1) Q := by
  unfold nListZip
  rw [okM_bnd]
@[simp] theorem okM_nzip1 {x y : Rv} {Q : Tr → Rho → Prop} : okM (nzip1 [x, y] ρ) Q ↔ ∃ ds es, derS ρ x = some (.list ds) ∧ derS ρ y = some (.list es) ∧ ds.length = es.length ∧ Q (.lst ((zipP ds es).map .dat)) ρ := by
  unfold nzip1
  simp only
  constructor
  · intro h
    split at h
    · rename_i ds es h1 h2
      split at h
      · rename_i hl
        exact ⟨ds, es, h1, h2, hl, okM_ok.mp h⟩
      · exact (okM_none.mp h).elim
    · exact (okM_none.mp h).elim
  · rintro ⟨ds, es, h1, h2, hl, q⟩
    simp only [h1, h2, hl, if_true]
    exact okM_ok.mpr q
@[simp] theorem okM_nCat {fa fb : M Rv} {Q : Tr → Rho → Prop} : okM (nCat fa fb ρ) Q ↔ okM (fa ρ) fun x ρ1 => okM (fb ρ1) fun y ρ2 => okM (cat1 x y ρ2) Q := by
  unfold nCat
  simp only [okM_bnd]
@[simp] theorem okM_nDT {fk fv : M Rv} {Q : Tr → Rho → Prop} : okM (nDT fk fv ρ) Q ↔ okM (fk ρ) fun x ρ1 => okM (fv ρ1) fun y ρ2 => okM (mkDT x y ρ2) Q := by
  unfold nDT
  simp only [okM_bnd]
@[simp] theorem okM_nCallT {F : Fn} {g : M Tr} {Q : Tr → Rho → Prop} : okM (nCallT F g ρ) Q ↔ okM (g ρ) fun t ρ1 => okF (F [.own .free t]) fun r _ => Q r ρ1 := by
  unfold nCallT
  rw [okM_bnd]
  refine okM_congr fun t ρ1 => ?_
  unfold call1T
  constructor
  · intro h
    split at h
    · rename_i r outs e
      exact ⟨r, outs, e, okM_ok.mp h⟩
    · exact (okM_none.mp h).elim
  · rintro ⟨r, outs, e, h⟩
    rw [e]
    exact okM_ok.mpr h
@[simp] theorem rdSl_fk {i : Nat} {m : Md} {ts : List (Key × PyData)} : rdSl i (some (.own m (.fk ts))) = some (.o i) := rfl
@[simp] theorem okM_cSortDI {f : M (Nat × List Nat)} {Q : Rv → Rho → Prop} : okM (cSortDI f ρ) Q ↔ okM (f ρ) fun r ρ1 => okO (match treeAt ρ1 r with
  | some (.dk kvs) => intKeys kvs
  | _ => none) fun ks => Q (.d (.list ((sortI ks).map .int))) ρ1 := by
  unfold cSortDI
  rw [okM_bnd]
  refine okM_congr fun r ρ1 => ?_
  cases h : treeAt ρ1 r with
  | none => simp
  | some t =>
    cases t with
    | dk kvs =>
      simp only
      cases hk : intKeys kvs <;> simp
    | _ => simp
@[simp] theorem okO_maxTD {d : PyData} {ds : List PyData} {Q : PyData → Prop} : okO (maxTD [.list (d :: ds)]) Q ↔ maxOk (d :: ds) = true ∧ Q (PySem.W.maxD d ds) := by
  show okO (if maxOk (d :: ds) then some (PySem.W.maxD d ds) else none) Q ↔ _
  rw [okO_ite]
@[simp] theorem okM_tNilM {Q : List Tr → Rho → Prop} : okM (tNilM ρ) Q ↔ Q [] ρ := okM_ok
@[simp] theorem okM_tConsM {f : M Tr} {g : M (List Tr)} {Q : List Tr → Rho → Prop} : okM (tConsM f g ρ) Q ↔ okM (f ρ) fun t ρ1 => okM (g ρ1) fun ts ρ2 => Q (t :: ts) ρ2 := by
  unfold tConsM
  simp only [okM_bnd, okM_ret]
theorem okM_small {n : Nat} {t : Tr} {Q : Tr → Rho → Prop} : okM (if small n then some (Er.ok t ρ) else none) Q ↔ small n = true ∧ Q t ρ := by
  split <;> simp_all
@[simp] theorem okM_nTupT {f : M (List Tr)} {Q : Tr → Rho → Prop} : okM (nTupT f ρ) Q ↔ okM (f ρ) fun ts ρ1 => (small ts.length = true ∧ ts.any isNode = true) ∧ Q (.tup ts) ρ1 := by
  unfold nTupT
  simp only [okM_bnd]
  refine okM_congr fun ts ρ1 => ?_
  rw [← Bool.and_eq_true]
  split <;> simp_all
@[simp] theorem isNode_lst {ts : List Tr} : isNode (.lst ts) = true := rfl
@[simp] theorem isNode_tup {ts : List Tr} : isNode (.tup ts) = true := rfl
@[simp] theorem isNode_dat {d : PyData} : isNode (.dat d) = false := rfl
@[simp] theorem okM_nLstT {f : M (List Tr)} {Q : Tr → Rho → Prop} : okM (nLstT f ρ) Q ↔ okM (f ρ) fun ts ρ1 => small ts.length = true ∧ Q (.lst ts) ρ1 := by
  unfold nLstT
  simp only [okM_bnd, okM_small]
end
end VL

end

section
set_option Elab.async false
set_option linter.all false
set_option maxRecDepth 100000
namespace VL
open PySem PySem.Spec PyProof.Rows L2
structure Sh (n : Nat) (d : PyData) : Prop where
  c : d.canLay0 = true
  h : d.depth ≤ n
theorem Sh.mono {n m : Nat} {d : PyData} (h : Sh n d) (hm : n ≤ m) : Sh m d := ⟨h.c, Nat.le_trans h.h hm⟩
theorem Sh.int {i : Int} {n : Nat} : Sh n (.int i) := ⟨by simp [PyData.canLay0], by simp [PyData.depth]⟩
theorem Sh.bool {b : Bool} {n : Nat} : Sh n (.bool b) := ⟨by simp [PyData.canLay0], by simp [PyData.depth]⟩
theorem Sh.none {n : Nat} : Sh n .none := ⟨by simp [PyData.canLay0], by simp [PyData.depth]⟩
theorem Sh.str {s : Str} {n : Nat} (h : PyData.canLay0 (.str s) = true) : Sh n (.str s) := ⟨h, by simp [PyData.depth]⟩
theorem shAll {n : Nat} : ∀ {xs : List PyData}, (∀ x ∈ xs, Sh n x) → PyData.canLayAll0 xs = true ∧ PyData.depthAll xs ≤ n
  | [], _ => ⟨by simp [PyData.canLayAll0], by simp [PyData.depthAll]⟩
  | x :: xs, h => by
    obtain ⟨h1, h2⟩ := shAll (xs := xs) fun y hy => h y (List.mem_cons_of_mem _ hy)
    have h3 := h x List.mem_cons_self
    exact ⟨by simp [PyData.canLayAll0, h1, h3.c], by simp only [PyData.depthAll]; have := h3.h; omega⟩
theorem Sh.tuple {n : Nat} {xs : List PyData} (h : ∀ x ∈ xs, Sh n x) : Sh (n + 1) (.tuple xs) := ⟨by simp [PyData.canLay0, (shAll h).1], by simp [PyData.depth, (shAll h).2]⟩
theorem Sh.list {n : Nat} {xs : List PyData} (h : ∀ x ∈ xs, Sh n x) : Sh (n + 1) (.list xs) := ⟨by simp [PyData.canLay0, (shAll h).1], by simp [PyData.depth, (shAll h).2]⟩
theorem shAll_inv {n : Nat} : ∀ {xs : List PyData}, PyData.canLayAll0 xs = true → PyData.depthAll xs ≤ n → ∀ x ∈ xs, Sh n x
  | x :: xs, h1, h2, y, hy => by
    simp only [PyData.canLayAll0, Bool.and_eq_true] at h1
    simp only [PyData.depthAll] at h2
    rcases List.mem_cons.mp hy with rfl | hy
    · exact ⟨h1.1, by omega⟩
    · exact shAll_inv h1.2 (by omega) y hy
theorem Sh.of_tuple {n : Nat} {xs : List PyData} (h : Sh (n + 1) (.tuple xs)) : ∀ x ∈ xs, Sh n x := shAll_inv (by have := h.c; simpa [PyData.canLay0] using this) (by have := h.h; simp only [PyData.depth] at this; omega)
theorem Sh.ok {n : Nat} {d : PyData} (h : Sh n d) (hn : n ≤ 64 := by omega) : SeqAt.shaped d = true := by
  unfold SeqAt.shaped
  rw [h.c, Bool.true_and]
  exact decide_eq_true (Nat.le_trans h.h hn)
@[simp] theorem shaped_int {i : Int} : SeqAt.shaped (.int i) = true := (Sh.int (n := 0)).ok
@[simp] theorem shaped_bool {i : Bool} : SeqAt.shaped (.bool i) = true := (Sh.bool (n := 0)).ok
@[simp] theorem shaped_none : SeqAt.shaped .none = true := (Sh.none (n := 0)).ok
@[simp] theorem okO_eqD {d e : PyData} {Q : Bool → Prop} : okO (eqD d e) Q ↔ (SeqAt.shaped d && SeqAt.shaped e) = true ∧ Q (PyData.eqv d e) := by
  unfold eqD
  rw [okO_ite]
@[simp] theorem okO_neD {d e : PyData} {Q : Bool → Prop} : okO (neD d e) Q ↔ (SeqAt.shaped d && SeqAt.shaped e) = true ∧ Q (!PyData.eqv d e) := by
  unfold neD
  rw [okO_ite]
@[simp] theorem okO_inL {d : PyData} {ds : List PyData} {Q : Bool → Prop} : okO (inD d (.list ds)) Q ↔ (SeqAt.shaped d && SeqAt.shaped (.list ds)) = true ∧ Q (ds.any fun z => PyData.eqv z d) := by
  unfold inD
  rw [okO_ite]
@[simp] theorem okO_inT {d : PyData} {ds : List PyData} {Q : Bool → Prop} : okO (inD d (.tuple ds)) Q ↔ (flatD d && ds.all flatD) = true ∧ Q (ds.any fun z => PyData.eqv z d) := by
  unfold inD
  rw [okO_ite]
@[simp] theorem okO_notIn {d e : PyData} {Q : Bool → Prop} : okO (notInD d e) Q ↔ okO (inD d e) fun b => Q (!b) := by
  unfold notInD
  rw [okO_map]
theorem eqv_self {d : PyData} (h : SeqAt.shaped d = true) : PyData.eqv d d = true := SeqAt.eqv_refl d (SeqAt.canLay_of_shaped h)
@[simp] theorem eqv_ii {i j : Int} : PyData.eqv (.int i) (.int j) = (i == j) := by simp [PyData.eqv]
@[simp] theorem eqv_bb {i j : Bool} : PyData.eqv (.bool i) (.bool j) = (i == j) := by simp [PyData.eqv]
@[simp] theorem eqv_ss {i j : Str} : PyData.eqv (.str i) (.str j) = (i == j) := by simp [PyData.eqv]
@[simp] theorem isND_i {i : Int} : isND (.int i) .none = some false := rfl
@[simp] theorem isND_n : isND .none .none = some true := rfl
@[simp] theorem isND_s {i : Str} : isND (.str i) .none = some false := rfl
@[simp] theorem isND_b {i : Bool} : isND (.bool i) .none = some false := rfl
@[simp] theorem isND_t {i : List PyData} : isND (.tuple i) .none = some false := rfl
@[simp] theorem isND_l {i : List PyData} : isND (.list i) .none = some false := rfl
@[simp] theorem notND_eq {d e : PyData} : notND d e = (isND d e).map (!·) := rfl
@[simp] theorem isiD_i {B : BT} {i : Int} : isiD B (.int i) = some (match B with | .int => true | _ => false) := rfl
@[simp] theorem isiD_b {B : BT} {i : Bool} : isiD B (.bool i) = some (match B with | .int => true | .bool => true | _ => false) := rfl
@[simp] theorem isiD_s {B : BT} {i : Str} : isiD B (.str i) = some (match B with | .str => true | _ => false) := rfl
@[simp] theorem isiD_n {B : BT} : isiD B .none = some false := rfl
@[simp] theorem isiD_t {B : BT} {i : List PyData} : isiD B (.tuple i) = some (match B with | .tuple => true | _ => false) := rfl
@[simp] theorem isiD_l {B : BT} {i : List PyData} : isiD B (.list i) = some (match B with | .list => true | _ => false) := rfl
mutual
noncomputable def sameB : PyData → PyData → Bool
  | .none, .none => true
  | .bool a, .bool b => a == b
  | .int a, .int b => a == b
  | .str a, .str b => decide (a = b)
  | .list a, .list b => sameBs a b
  | .tuple a, .tuple b => sameBs a b
  | _, _ => false
noncomputable def sameBs : List PyData → List PyData → Bool
  | [], [] => true
  | a :: as, b :: bs => sameB a b && sameBs as bs
  | _, _ => false
end
mutual
theorem sameB_ok : ∀ {a b : PyData}, sameB a b = true → a = b
  | .none, b, h => by cases b <;> simp [sameB] at h ⊢
  | .bool a, b, h => by cases b <;> simp [sameB] at h ⊢; exact h
  | .int a, b, h => by cases b <;> simp [sameB] at h ⊢; exact h
  | .str a, b, h => by cases b <;> simp [sameB] at h ⊢; exact h
  | .list a, b, h => by cases b <;> simp [sameB] at h ⊢; exact sameBs_ok h
  | .tuple a, b, h => by cases b <;> simp [sameB] at h ⊢; exact sameBs_ok h
  | .dict a, b, h => by cases b <;> simp [sameB] at h
theorem sameBs_ok : ∀ {a b : List PyData}, sameBs a b = true → a = b
  | [], b, h => by cases b <;> simp [sameBs] at h ⊢
  | a :: as, b, h => by
    cases b with
    | nil => simp [sameBs] at h
    | cons b bs =>
      simp only [sameBs, Bool.and_eq_true] at h
      rw [sameB_ok h.1, sameBs_ok h.2]
end
end VL

end

section
set_option Elab.async false
set_option linter.all false
set_option maxRecDepth 100000
namespace VL
open PySem PySem.Spec PyProof.Rows L2
noncomputable def gBag : MS := (sSeq (sSet 2 (cD (.int 0)))
  (sSeq (sIf (cCmp ltD (cVar 1) (cCall lenD (aCons (cVar 0) aNil))) (sSet 2 (cBin modD (cBin subD (cVar 0) (cVar 1)) (cBin mulD (cBin powD (cD (.int 10)) (cD (.int 60))) (cBin powD (cD (.int 10)) (cD (.int 60)))))) sNil)
  (sSeq (sIf (cCmp ltD (cVar 2) (cBin powD (cD (.int 10)) (cD (.int 18)))) (sRet (nLst (aCons (cD (.int 0)) (aCons (cBin addD (cD (.int 1)) (cBin modD (cBin addD (cBin mulD (cVar 2) (cD (.int 7919))) (cBin mulD (cD (.int 104729)) (cVar 1))) (cD (.int 2147483646)))) aNil)))) sNil)
  (sRet (nLst (aCons (cVar 2) (aCons (cBin addD (cD (.int 1)) (cBin modD (cBin addD (cVar 2) (cVar 1)) (cD (.int 2147483646)))) aNil)))))))
noncomputable def gTake : MS := (sSeq (sIf (cCmp gtD (cBin subD (cVar 0) (cD (.int 0))) (cD (.int 0))) (sSeq (sSet 2 (cBin modD (cBin subD (cVar 0) (cD (.int 0))) (cVar 1)))
  (sSeq (sSetIx [] (cBin fdivD (cBin subD (cVar 0) (cD (.int 0))) (cVar 1)) (pVar 0) (cD (.int 0)))
  (sRetV 2))) sNil)
  (sSeq (sSetIx [] (cBin modD (cBin mulD (cBin subD (cVar 0) (cD (.int 1))) (cD (.int 48271))) (cD (.int 2147483647))) (pVar 0) (cD (.int 1)))
  (sRet (nDat (cBin modD (cBin fdivD (cBin modD (cBin mulD (cBin subD (cVar 0) (cD (.int 1))) (cBin subD (cVar 0) (cD (.int 1)))) (cD (.int 2147483629))) (cD (.int 64))) (cVar 1))))))
noncomputable def fBag : Fn := runF 3 gBag
noncomputable def fTake : Fn := runF 3 gTake
noncomputable def sIn : Str := ⟨#[105, 110]⟩
theorem eIn : ("in" : Str) = sIn := by decide +kernel
noncomputable def sOut : Str := ⟨#[111, 117, 116]⟩
theorem eOut : ("out" : Str) = sOut := by decide +kernel
noncomputable def sChin : Str := ⟨#[99, 104, 105, 110]⟩
theorem eChin : ("chin" : Str) = sChin := by decide +kernel
noncomputable def sBrow : Str := ⟨#[98, 114, 111, 119]⟩
theorem eBrow : ("brow" : Str) = sBrow := by decide +kernel
noncomputable def gShowing : MS := (sRet (nDat (cTup (aCons (cBin addD (cD (.int 1)) (cFrz (nCall [0] 2 fTake (aCons (cVar 0) (aCons (cD (.int 9)) aNil))))) (aCons (cBin subD (cFrz (nLst (aCons (cD (.str sChin)) (aCons (cD (.str sChin)) (aCons (cD (.str sBrow)) aNil))))) (cFrz (nCall [0] 2 fTake (aCons (cVar 0) (aCons (cD (.int 3)) aNil))))) aNil)))))
noncomputable def fShowing : Fn := runF 1 gShowing
noncomputable def gSign : MS := (sSeq (sSet 1 (cBin subD (cFrz (nLst (aCons (cD (.str sIn)) (aCons (cD (.str sOut)) aNil)))) (cFrz (nCall [0] 2 fTake (aCons (cVar 0) (aCons (cD (.int 2)) aNil))))))
  (sRet (nDat (cBin addD (cTup (aCons (cVar 1) (aCons (cFrz (nCall [0] 2 fTake (aCons (cVar 0) (aCons (cD (.int 10)) aNil)))) aNil))) (cFrz (nCall [0] 1 fShowing (aCons (cVar 0) aNil)))))))
noncomputable def fSign : Fn := runF 2 gSign
inductive BagT : Tr → Prop where
  | mk {c s : Int} (c0 : 0 ≤ c) (s0 : 0 ≤ s) (s1 : s < 2147483648) : BagT (.lst [.dat (.int c), .dat (.int s)])
theorem mod2 {s : Int} (h0 : 0 ≤ s) (h1 : s < 2147483648) : 0 ≤ s * 48271 % 2147483647 ∧ s * 48271 % 2147483647 < 2147483648 := by omega
theorem ixN_nat {n : Nat} {i : Int} (h0 : 0 ≤ i) (h1 : i < n) : ixN n i = some i.toNat := by
  unfold ixN
  rw [if_pos h0, if_pos h1]
@[simp] theorem ixN_cast {n k : Nat} (h : k < n) : ixN n (k : Int) = some k := by
  rw [ixN_nat (by omega) (by omega), Int.toNat_natCast]
@[simp] theorem ixN_0 {n : Nat} (h : 0 < n) : ixN n 0 = some 0 := ixN_nat (by omega) (by omega)
@[simp] theorem ixN_1 {n : Nat} (h : 1 < n) : ixN n 1 = some 1 := ixN_nat (by omega) (by omega)
theorem atI_nat {α : Type} {xs : List α} {i : Int} (h0 : 0 ≤ i) (h1 : i < xs.length) : atI xs i = xs[i.toNat]? := by
  unfold atI
  rw [ixN_nat h0 h1]
  rfl
@[simp] theorem atI_cast {α : Type} {xs : List α} {k : Nat} (h : k < xs.length) : atI xs (k : Int) = xs[k]? := by
  rw [atI_nat (by omega) (by omega), Int.toNat_natCast]
@[simp] theorem atI_0 {α : Type} {xs : List α} (h : 0 < xs.length) : atI xs 0 = xs[0]? := by
  unfold atI
  rw [ixN_0 h]
  rfl
@[simp] theorem atI_1 {α : Type} {xs : List α} (h : 1 < xs.length) : atI xs 1 = xs[1]? := by
  unfold atI
  rw [ixN_1 h]
  rfl
@[simp] theorem ixN_2 {n : Nat} (h : 2 < n) : ixN n 2 = some 2 := ixN_nat (by omega) (by omega)
@[simp] theorem atI_2 {α : Type} {xs : List α} (h : 2 < xs.length) : atI xs 2 = xs[2]? := by
  unfold atI
  rw [ixN_2 h]
  rfl
@[simp] theorem ixN_3 {n : Nat} (h : 3 < n) : ixN n 3 = some 3 := ixN_nat (by omega) (by omega)
@[simp] theorem atI_3 {α : Type} {xs : List α} (h : 3 < xs.length) : atI xs 3 = xs[3]? := by
  unfold atI
  rw [ixN_3 h]
  rfl
@[simp] theorem ixN_4 {n : Nat} (h : 4 < n) : ixN n 4 = some 4 := ixN_nat (by omega) (by omega)
@[simp] theorem atI_4 {α : Type} {xs : List α} (h : 4 < xs.length) : atI xs 4 = xs[4]? := by
  unfold atI
  rw [ixN_4 h]
  rfl
@[simp] theorem ixN_5 {n : Nat} (h : 5 < n) : ixN n 5 = some 5 := ixN_nat (by omega) (by omega)
@[simp] theorem atI_5 {α : Type} {xs : List α} (h : 5 < xs.length) : atI xs 5 = xs[5]? := by
  unfold atI
  rw [ixN_5 h]
  rfl
@[simp] theorem ixN_6 {n : Nat} (h : 6 < n) : ixN n 6 = some 6 := ixN_nat (by omega) (by omega)
@[simp] theorem atI_6 {α : Type} {xs : List α} (h : 6 < xs.length) : atI xs 6 = xs[6]? := by
  unfold atI
  rw [ixN_6 h]
  rfl
@[simp] theorem ixN_7 {n : Nat} (h : 7 < n) : ixN n 7 = some 7 := ixN_nat (by omega) (by omega)
@[simp] theorem atI_7 {α : Type} {xs : List α} (h : 7 < xs.length) : atI xs 7 = xs[7]? := by
  unfold atI
  rw [ixN_7 h]
  rfl
@[simp] theorem ixN_8 {n : Nat} (h : 8 < n) : ixN n 8 = some 8 := ixN_nat (by omega) (by omega)
@[simp] theorem atI_8 {α : Type} {xs : List α} (h : 8 < xs.length) : atI xs 8 = xs[8]? := by
  unfold atI
  rw [ixN_8 h]
  rfl
@[simp] theorem ixN_9 {n : Nat} (h : 9 < n) : ixN n 9 = some 9 := ixN_nat (by omega) (by omega)
@[simp] theorem atI_9 {α : Type} {xs : List α} (h : 9 < xs.length) : atI xs 9 = xs[9]? := by
  unfold atI
  rw [ixN_9 h]
  rfl
theorem take_ok {m : Md} {t : Tr} {n : Int} (hm : m.ow = true) (hb : BagT t) (hn : 0 < n) (hl : n.natAbs < lim) {Q : Tr → List Sl → Prop} (k : ∀ r t', 0 ≤ r → r < n → BagT t' → Q (.dat (.int r)) [.own .pin t', .val (.int n)]) :
    okF (fTake [.own m t, .val (.int n)]) Q := by
  obtain ⟨h0, h1, h2⟩ := hb
  rename_i c s
  have hp : pinS (.own m (.lst [.dat (.int c), .dat (.int s)])) = .own .pin (.lst [.dat (.int c), .dat (.int s)]) := by cases m <;> first | rfl | cases hm
  refine okF_run ?_
  simp only [entry, List.map_cons, List.map_nil, hp]
  unfold gTake
  rw [okS_seq]
  refine okS_if ?_
  simp
  split
  · rw [okS_seq]
    refine okS_set ?_
    simp [hn]
    rw [okS_seq]
    refine okS_setIx ?_
    simp [hn, hl]
    exact k _ _ (Int.emod_nonneg _ (by omega)) (Int.emod_lt_of_pos _ hn) ⟨Int.ediv_nonneg h0 (by omega), h1, h2⟩
  · rw [okS_seq]
    refine okS_setIx ?_
    simp
    refine ⟨⟨lt_lim (by omega) (by omega), by decide +kernel⟩, ?_⟩
    refine okS_ret ?_
    have hs := mod2 h1 h2
    generalize s * 48271 % 2147483647 = z at hs ⊢
    simp [hn]
    refine ⟨lt_lim (by omega) (by omega), by decide +kernel, ?_⟩
    exact k _ _ (Int.emod_nonneg _ (by omega)) (Int.emod_lt_of_pos _ hn) ⟨h0, hs.1, hs.2⟩
theorem bag_ok {ns : List Int} {i : Nat} (hi : i ≤ 40) {Q : Tr → List Sl → Prop} (k : ∀ t, BagT t → Q t [.val (scrD ns), .val (.int i)]) :
    okF (fBag [.val (scrD ns), .val (.int i)]) Q := by
  refine okF_run ?_
  simp only [entry, List.map_cons, List.map_nil, pinS_val]
  unfold gBag
  rw [okS_seq]
  refine okS_set ?_
  simp
  rw [okS_seq]
  refine okS_if ?_
  have fin : ∀ z : Int, 0 ≤ z → okS (sSeq (sIf (cCmp ltD (cVar 2) (cBin powD (cD (.int 10)) (cD (.int 18)))) (sRet (nLst (aCons (cD (.int 0)) (aCons (cBin addD (cD (.int 1)) (cBin modD (cBin addD (cBin mulD (cVar 2) (cD (.int 7919))) (cBin mulD (cD (.int 104729)) (cVar 1))) (cD (.int 2147483646)))) aNil)))) sNil)
      (sRet (nLst (aCons (cVar 2) (aCons (cBin addD (cD (.int 1)) (cBin modD (cBin addD (cVar 2) (cVar 1)) (cD (.int 2147483646)))) aNil)))) [.val (scrD ns), .val (.int i), .val (.int z)]) fun o => match o with
        | .nx ρ' => Q (.dat .none) (ρ'.take 2)
        | .rt t ρ' => Q t (ρ'.take 2)
        | _ => False := by
    intro z hz
    rw [okS_seq]
    refine okS_if ?_
    simp
    split
    · rename_i h
      refine okS_ret ?_
      simp
      have e := @lt_lim i (by omega) (by omega)
      refine ⟨⟨lt_lim (by omega) (by omega), by decide +kernel⟩, ⟨by decide +kernel, by simpa using e⟩, ?_⟩
      exact k _ ⟨by omega, by omega, by omega⟩
    · refine okS_ret ?_
      simp
      exact k _ ⟨hz, by omega, by omega⟩
  simp
  split
  · rename_i h
    refine okS_set ?_
    simp [h]
    exact ⟨by decide +kernel, fin _ (Int.emod_nonneg _ (by decide))⟩
  · exact fin 0 (by omega)
theorem okM_take {ρ : Rho} {i : Nat} {m : Md} {t : Tr} {n : Int} {T : List Nat} {P : Tr → Rho → Prop} (hi : ρ[i]? = some (.own m t)) (hm : m.ow = true) (hT : T.contains i = true) (hb : BagT t) (hn : 0 < n) (hl : n.natAbs < lim) (k : ∀ r t', 0 ≤ r → r < n → BagT t' → P (.dat (.int r)) (ρ.set i (.own m t'))) :
    okM (callN T 2 fTake [.o i, .d (.int n)] ρ) P := by
  rw [okM_callN]
  simp only [argSls_o, hi, argSls_d, argSls_nil, Option.map_some, okO_some, List.length_cons, List.length_nil, oneEach_o, oneEach_d, oneEach_nil, posOf_d, posOf_nil, Option.map_none, Option.isNone_none, Bool.and_self, allIn_o, allIn_d, allIn_nil, hT, true_and]
  rw [ow_arg hm]
  refine take_ok hm hb hn hl fun r t' h0 h1 ht => ?_
  simp only [mrg_own, unb_pin, mrg_val, mrg_nil, backOk_own, backOk_val, backOk_nil, true_and]
  have e : wb ρ [.o i, .d (.int n)] [.own .pin t', .val (.int n)] = ρ.set i (.own m t') := by
    apply List.ext_getElem?
    intro j
    rw [wb_eq, wbGo_get, Nat.zero_add]
    by_cases hj : i = j
    · subst hj
      have hlen : i < ρ.length := (List.getElem?_eq_some_iff.mp hi).1
      rw [hi, List.getElem?_set_self hlen]
      simp
    · rw [List.getElem?_set_ne hj]
      simp [hj]
  rw [e]
  exact k r t' h0 h1 ht
inductive IsShow : PyData → Prop where
  | mk {f : Int} {p : Str} (h0 : 1 ≤ f) (h1 : f ≤ 9) (hp : p = sChin ∨ p = sBrow) : IsShow (.tuple [.int f, .str p])
inductive IsSign : PyData → Prop where
  | mk {a p : Str} {c f : Int} (ha : a = sIn ∨ a = sOut) (c0 : 0 ≤ c) (c1 : c ≤ 9) (h0 : 1 ≤ f) (h1 : f ≤ 9) (hp : p = sChin ∨ p = sBrow) : IsSign (.tuple [.str a, .int c, .int f, .str p])
theorem showing_ok {m : Md} {t : Tr} (hm : m.ow = true) (hb : BagT t) {Q : Tr → List Sl → Prop} (k : ∀ d t', IsShow d → BagT t' → Q (.dat d) [.own .pin t']) : okF (fShowing [.own m t]) Q := by
  have hp : pinS (.own m t) = .own .pin t := by cases m <;> first | rfl | cases hm
  refine okF_run ?_
  simp only [entry, List.map_cons, List.map_nil, hp]
  unfold gShowing
  refine okS_ret ?_
  obtain ⟨h0, h1, h2⟩ := hb
  simp [-okM_callN]
  refine okM_take rfl (by simp) rfl ⟨h0, h1, h2⟩ (by omega) (lt_lim (by omega) (by omega)) fun r t' r0 r1 ht => ?_
  obtain ⟨g0, g1, g2⟩ := ht
  simp [-okM_callN]
  refine okM_take rfl (by simp) rfl ⟨g0, g1, g2⟩ (by omega) (lt_lim (by omega) (by omega)) fun u t' u0 u1 ht => ?_
  have hu : u = 0 ∨ u = 1 ∨ u = 2 := by omega
  rcases hu with rfl | rfl | rfl
  · simp
    exact k _ _ ⟨by omega, by omega, .inl rfl⟩ ht
  · simp
    exact k _ _ ⟨by omega, by omega, .inl rfl⟩ ht
  · simp
    exact k _ _ ⟨by omega, by omega, .inr rfl⟩ ht
theorem wb_one {ρ : Rho} {i : Nat} {m m' : Md} {t t' : Tr} {rs : List Rv} {os : List Sl} {k : Nat} (hi : ρ[i]? = some (.own m t)) (hp : posOf rs i = some k) (ho : ∀ j, j ≠ i → posOf rs j = none) (hk : os[k]? = some (.own m' t')) : wb ρ rs os = ρ.set i (.own m t') := by
  apply List.ext_getElem?
  intro j
  rw [wb_eq, wbGo_get, Nat.zero_add]
  by_cases hj : i = j
  · subst hj
    have hlen : i < ρ.length := (List.getElem?_eq_some_iff.mp hi).1
    rw [hi, List.getElem?_set_self hlen, hp]
    simp [hk]
  · rw [List.getElem?_set_ne hj, ho j (Ne.symm hj)]
    simp
theorem okM_bag1 {F : Fn} {ρ : Rho} {i : Nat} {m : Md} {t : Tr} {T : List Nat} {P : Tr → Rho → Prop} (hi : ρ[i]? = some (.own m t)) (hT : T.contains i = true) (k : okF (F [.own m.arg t]) fun r outs => ∃ t', outs = [.own .pin t'] ∧ P r (ρ.set i (.own m t'))) :
    okM (callN T 1 F [.o i] ρ) P := by
  rw [okM_callN]
  simp only [argSls_o, hi, argSls_nil, Option.map_some, okO_some, List.length_cons, List.length_nil, oneEach_o, oneEach_nil, posOf_nil, Option.isNone_none, Bool.and_self, allIn_o, allIn_nil, hT, true_and]
  refine okF_mono k ?_
  rintro r outs ⟨t', rfl, p⟩
  simp only [mrg_own, unb_pin, mrg_nil, backOk_own, backOk_nil, true_and]
  rw [wb_one (k := 0) hi (by simp) (fun j hj => by simp [Ne.symm hj]) rfl]
  exact p
theorem okM_showing {ρ : Rho} {i : Nat} {m : Md} {t : Tr} {T : List Nat} {P : Tr → Rho → Prop} (hi : ρ[i]? = some (.own m t)) (hm : m.ow = true) (hT : T.contains i = true) (hb : BagT t) (k : ∀ d t', IsShow d → BagT t' → P (.dat d) (ρ.set i (.own m t'))) :
    okM (callN T 1 fShowing [.o i] ρ) P := okM_bag1 hi hT (by rw [ow_arg hm]; exact showing_ok hm hb fun d t' h h' => ⟨t', rfl, k d t' h h'⟩)
theorem sign_ok {m : Md} {t : Tr} (hm : m.ow = true) (hb : BagT t) {Q : Tr → List Sl → Prop} (k : ∀ d t', IsSign d → BagT t' → Q (.dat d) [.own .pin t']) : okF (fSign [.own m t]) Q := by
  have hp : pinS (.own m t) = .own .pin t := by cases m <;> first | rfl | cases hm
  refine okF_run ?_
  simp only [entry, List.map_cons, List.map_nil, hp]
  unfold gSign
  rw [okS_seq]
  refine okS_set ?_
  obtain ⟨h0, h1, h2⟩ := hb
  simp [-okM_callN]
  refine okM_take rfl (by simp) rfl ⟨h0, h1, h2⟩ (by omega) (lt_lim (by omega) (by omega)) fun r t' r0 r1 ht => ?_
  obtain ⟨g0, g1, g2⟩ := ht
  have hr : ∃ a, (a = sIn ∨ a = sOut) ∧ atI [PyData.str sIn, PyData.str sOut] r = some (.str a) := by
    have hu : r = 0 ∨ r = 1 := by omega
    rcases hu with rfl | rfl
    · exact ⟨_, .inl rfl, by simp⟩
    · exact ⟨_, .inr rfl, by simp⟩
  obtain ⟨a, ha, ea⟩ := hr
  simp [ea]
  refine okS_ret ?_
  simp [-okM_callN]
  refine okM_take rfl (by simp) rfl ⟨g0, g1, g2⟩ (by omega) (lt_lim (by omega) (by omega)) fun u t' u0 u1 ht => ?_
  obtain ⟨g0, g1, g2⟩ := ht
  simp [-okM_callN]
  refine okM_showing rfl (by simp) rfl ⟨g0, g1, g2⟩ fun d t' hd ht => ?_
  obtain ⟨d0, d1, d2⟩ := hd
  simp
  exact k _ _ ⟨ha, by omega, by omega, d0, d1, d2⟩ ht
theorem okM_pure {F : Fn} {ρ : Rho} {ds : List PyData} {n : Nat} {T : List Nat} {P : Tr → Rho → Prop} (hn : ds.length = n) (k : okF (F (ds.map .val)) fun r _ => P r ρ) : okM (callN T n F (ds.map .d) ρ) P := by
  have h1 : ∀ ds : List PyData, argSls ρ (ds.map .d) = some (ds.map .val) := fun ds => by
    induction ds with
    | nil => rfl
    | cons d ds ih => simp [ih]
  have h2 : ∀ (ds : List PyData) (i : Nat), posOf (ds.map .d) i = none := fun ds i => by
    induction ds with
    | nil => rfl
    | cons d ds ih => simp [ih]
  have h3 : ∀ ds : List PyData, oneEach (ds.map .d) = true := fun ds => by
    induction ds with
    | nil => rfl
    | cons d ds ih => simp [ih]
  have h4 : ∀ ds : List PyData, allIn T (ds.map .d) = true := fun ds => by
    induction ds with
    | nil => rfl
    | cons d ds ih => simp [ih]
  have h5 : ∀ (ds : List PyData) (os : List Sl), backOk (ds.map .val) (mrg (ds.map .val) os) = true := fun ds => by
    induction ds with
    | nil => intro os; rfl
    | cons d ds ih => intro os; simp [ih]
  rw [okM_callN, h1]
  simp only [okO_some, List.length_map, hn, h3, h4, true_and]
  refine okF_mono k fun r outs p => ⟨h5 _ _, ?_⟩
  rw [wb_eq, wbGo_no (h2 ds)]
  exact p
theorem okM_pure1 {F : Fn} {ρ : Rho} {d : PyData} {T : List Nat} {P : Tr → Rho → Prop} (k : okF (F [.val d]) fun r _ => P r ρ) : okM (callN T 1 F [.d d] ρ) P := okM_pure (ds := [d]) rfl k
end VL

end

section
set_option Elab.async false
set_option linter.all false
set_option maxRecDepth 100000
namespace VL
open PySem PySem.Spec PyProof.Rows L2
noncomputable def sBought : Str := ⟨#[98, 111, 117, 103, 104, 116]⟩
theorem eBought : ("bought" : Str) = sBought := by decide +kernel
noncomputable def sSold : Str := ⟨#[115, 111, 108, 100]⟩
theorem eSold : ("sold" : Str) = sSold := by decide +kernel
noncomputable def gCard : MS := (sSeq (sSet 2 (cFrz (nCall [0, 1] 2 fTake (aCons (cVar 0) (aCons (cVar 1) aNil)))))
  (sSeq (sSet 3 (cBin modD (cBin addD (cBin addD (cVar 2) (cD (.int 1))) (cFrz (nCall [0] 2 fTake (aCons (cVar 0) (aCons (cBin subtD (cVar 1) (cD (.int 1))) aNil))))) (cVar 1)))
  (sSeq (sSet 4 (cBin subD (cFrz (nLst (aCons (cBin addD (cD (.int 100)) (cFrz (nCall [0] 2 fTake (aCons (cVar 0) (aCons (cD (.int 3)) aNil))))) (aCons (cFrz (nCall [0] 2 fTake (aCons (cVar 0) (aCons (cBin addD (cBin powD (cD (.int 10)) (cD (.int 9))) (cD (.int 1))) aNil)))) (aCons (cBin powD (cD (.int 10)) (cD (.int 9))) aNil))))) (cBin subD (cFrz (nLst (aCons (cD (.int 0)) (aCons (cD (.int 0)) (aCons (cD (.int 0)) (aCons (cD (.int 0)) (aCons (cD (.int 1)) (aCons (cD (.int 2)) aNil)))))))) (cFrz (nCall [0] 2 fTake (aCons (cVar 0) (aCons (cD (.int 6)) aNil)))))))
  (sSeq (sSet 5 (cBin subD (cFrz (nLst (aCons (cBin addD (cD (.int 1)) (cFrz (nCall [0] 2 fTake (aCons (cVar 0) (aCons (cD (.int 2)) aNil))))) (aCons (cBin addD (cD (.int 1)) (cFrz (nCall [0] 2 fTake (aCons (cVar 0) (aCons (cBin powD (cD (.int 10)) (cD (.int 6))) aNil))))) (aCons (cBin powD (cD (.int 10)) (cD (.int 6))) aNil))))) (cBin subD (cFrz (nLst (aCons (cD (.int 0)) (aCons (cD (.int 0)) (aCons (cD (.int 0)) (aCons (cD (.int 0)) (aCons (cD (.int 1)) (aCons (cD (.int 2)) aNil)))))))) (cFrz (nCall [0] 2 fTake (aCons (cVar 0) (aCons (cD (.int 6)) aNil)))))))
  (sSeq (sSet 6 (cBin subD (cFrz (nLst (aCons (cFrz (nCall [0] 2 fTake (aCons (cVar 0) (aCons (cD (.int 2)) aNil)))) (aCons (cFrz (nCall [0] 2 fTake (aCons (cVar 0) (aCons (cBin addD (cBin powD (cD (.int 10)) (cD (.int 9))) (cD (.int 1))) aNil)))) aNil)))) (cCall intD (aCons (cOf (cCmp eqD (cFrz (nCall [0] 2 fTake (aCons (cVar 0) (aCons (cD (.int 5)) aNil)))) (cD (.int 0)))) aNil))))
  (sRet (nDat (cTup (aCons (cVar 2) (aCons (cVar 3) (aCons (cBin subD (cFrz (nLst (aCons (cD (.str sBought)) (aCons (cD (.str sSold)) aNil)))) (cFrz (nCall [0] 2 fTake (aCons (cVar 0) (aCons (cD (.int 2)) aNil))))) (aCons (cVar 4) (aCons (cVar 5) (aCons (cVar 6) aNil))))))))))))))
noncomputable def fCard : Fn := runF 7 gCard
inductive IsCard (n : Int) : PyData → Prop where
  | mk {w o p c m : Int} {d : Str} (w0 : 0 ≤ w) (w1 : w < n) (o0 : 0 ≤ o) (o1 : o < n) (wo : w ≠ o) (hd : d = sBought ∨ d = sSold) (p0 : 0 ≤ p) (p1 : p ≤ 1000000000) (c0 : 1 ≤ c) (c1 : c ≤ 1000000) (m0 : 0 ≤ m) (m1 : m ≤ 1000000000) :
    IsCard n (.tuple [.int w, .int o, .str d, .int p, .int c, .int m])
theorem at6 {r : Int} (h0 : 0 ≤ r) (h1 : r < 6) : ∃ i : Int, atI [PyData.int 0, .int 0, .int 0, .int 0, .int 1, .int 2] r = some (.int i) ∧ (i = 0 ∨ i = 1 ∨ i = 2) := by
  have : r = 0 ∨ r = 1 ∨ r = 2 ∨ r = 3 ∨ r = 4 ∨ r = 5 := by omega
  rcases this with rfl | rfl | rfl | rfl | rfl | rfl
  · exact ⟨0, rfl, .inl rfl⟩
  · exact ⟨0, rfl, .inl rfl⟩
  · exact ⟨0, rfl, .inl rfl⟩
  · exact ⟨0, rfl, .inl rfl⟩
  · exact ⟨1, rfl, .inr (.inl rfl)⟩
  · exact ⟨2, rfl, .inr (.inr rfl)⟩
theorem at3 {i a b c : Int} (h : i = 0 ∨ i = 1 ∨ i = 2) : ∃ v : Int, atI [PyData.int a, .int b, .int c] i = some (.int v) ∧ (v = a ∨ v = b ∨ v = c) := by
  rcases h with rfl | rfl | rfl
  · exact ⟨a, rfl, .inl rfl⟩
  · exact ⟨b, rfl, .inr (.inl rfl)⟩
  · exact ⟨c, rfl, .inr (.inr rfl)⟩
theorem card_ok {m : Md} {t : Tr} {n : Int} (hm : m.ow = true) (hb : BagT t) (n0 : 2 ≤ n) (n1 : n ≤ 1000) {Q : Tr → List Sl → Prop} (k : ∀ d t', IsCard n d → BagT t' → Q (.dat d) [.own .pin t', .val (.int n)]) : okF (fCard [.own m t, .val (.int n)]) Q := by
  have hp : pinS (.own m t) = .own .pin t := by cases m <;> first | rfl | cases hm
  refine okF_run ?_
  simp only [entry, List.map_cons, List.map_nil, hp, pinS_val]
  unfold gCard
  rw [okS_seq]
  refine okS_set ?_
  obtain ⟨g0, g1, g2⟩ := hb
  simp [-okM_callN]
  refine okM_take rfl (by simp) rfl ⟨g0, g1, g2⟩ (by omega) (lt_lim (by omega) (by omega)) fun w t' w0 w1 ht => ?_
  simp
  rw [okS_seq]
  refine okS_set ?_
  obtain ⟨g0, g1, g2⟩ := ht
  simp [-okM_callN]
  refine okM_take rfl (by simp) rfl ⟨g0, g1, g2⟩ (by omega) (lt_lim (by omega) (by omega)) fun o' t' o0 o1 ht => ?_
  simp
  refine ⟨by omega, ?_⟩
  rw [okS_seq]
  refine okS_set ?_
  obtain ⟨g0, g1, g2⟩ := ht
  simp [-okM_callN]
  refine okM_take rfl (by simp) rfl ⟨g0, g1, g2⟩ (by omega) (lt_lim (by omega) (by omega)) fun p1 t' p10 p11 ht => ?_
  obtain ⟨g0, g1, g2⟩ := ht
  simp [-okM_callN]
  refine okM_take rfl (by simp) rfl ⟨g0, g1, g2⟩ (by omega) (lt_lim (by omega) (by omega)) fun p2 t' p20 p21 ht => ?_
  obtain ⟨g0, g1, g2⟩ := ht
  simp [-okM_callN]
  refine okM_take rfl (by simp) rfl ⟨g0, g1, g2⟩ (by omega) (lt_lim (by omega) (by omega)) fun p3 t' p30 p31 ht => ?_
  obtain ⟨i1, e1, hi1⟩ := at6 p30 p31
  obtain ⟨p, ep, hp⟩ := at3 (a := 100 + p1) (b := p2) (c := 1000000000) hi1
  simp [e1, ep]
  rw [okS_seq]
  refine okS_set ?_
  obtain ⟨g0, g1, g2⟩ := ht
  simp [-okM_callN]
  refine okM_take rfl (by simp) rfl ⟨g0, g1, g2⟩ (by omega) (lt_lim (by omega) (by omega)) fun c1 t' c10 c11 ht => ?_
  obtain ⟨g0, g1, g2⟩ := ht
  simp [-okM_callN]
  refine okM_take rfl (by simp) rfl ⟨g0, g1, g2⟩ (by omega) (lt_lim (by omega) (by omega)) fun c2 t' c20 c21 ht => ?_
  obtain ⟨g0, g1, g2⟩ := ht
  simp [-okM_callN]
  refine okM_take rfl (by simp) rfl ⟨g0, g1, g2⟩ (by omega) (lt_lim (by omega) (by omega)) fun c3 t' c30 c31 ht => ?_
  obtain ⟨i2, e2, hi2⟩ := at6 c30 c31
  obtain ⟨c, ec, hc⟩ := at3 (a := 1 + c1) (b := 1 + c2) (c := 1000000) hi2
  simp [e2, ec]
  rw [okS_seq]
  refine okS_set ?_
  obtain ⟨g0, g1, g2⟩ := ht
  simp [-okM_callN]
  refine okM_take rfl (by simp) rfl ⟨g0, g1, g2⟩ (by omega) (lt_lim (by omega) (by omega)) fun m1 t' m10 m11 ht => ?_
  obtain ⟨g0, g1, g2⟩ := ht
  simp [-okM_callN]
  refine okM_take rfl (by simp) rfl ⟨g0, g1, g2⟩ (by omega) (lt_lim (by omega) (by omega)) fun m2 t' m20 m21 ht => ?_
  obtain ⟨g0, g1, g2⟩ := ht
  simp [-okM_callN]
  refine okM_take rfl (by simp) rfl ⟨g0, g1, g2⟩ (by omega) (lt_lim (by omega) (by omega)) fun m3 t' m30 m31 ht => ?_
  have hmm : ∃ v : Int, atI [PyData.int m1, .int m2] (if m3 = 0 then 1 else 0) = some (.int v) ∧ (v = m1 ∨ v = m2) := by
    split <;> simp
  obtain ⟨mm, em, hmm⟩ := hmm
  simp [em]
  refine okS_ret ?_
  obtain ⟨g0, g1, g2⟩ := ht
  simp [-okM_callN]
  refine okM_take rfl (by simp) rfl ⟨g0, g1, g2⟩ (by omega) (lt_lim (by omega) (by omega)) fun u t' u0 u1 ht => ?_
  have hu : ∃ d, (d = sBought ∨ d = sSold) ∧ atI [PyData.str sBought, .str sSold] u = some (.str d) := by
    have : u = 0 ∨ u = 1 := by omega
    rcases this with rfl | rfl
    · exact ⟨_, .inl rfl, by simp⟩
    · exact ⟨_, .inr rfl, by simp⟩
  obtain ⟨d, hd, ed⟩ := hu
  simp [ed]
  have q0 : 0 ≤ (w + 1 + o') % n := Int.emod_nonneg _ (by omega)
  have q1 : (w + 1 + o') % n < n := Int.emod_lt_of_pos _ (by omega)
  have q2 : w ≠ (w + 1 + o') % n := by
    intro e
    by_cases h : w + 1 + o' < n
    · rw [Int.emod_eq_of_lt (by omega) h] at e
      omega
    · have : (w + 1 + o') % n = w + 1 + o' - n := by
        rw [← Int.sub_emod_right, Int.emod_eq_of_lt (by omega) (by omega)]
      omega
  exact k _ _ ⟨w0, w1, q0, q1, q2, hd, by omega, by omega, by omega, by omega, by omega, by omega⟩ ht
theorem okM_pure3 {F : Fn} {ρ : Rho} {d e f : PyData} {T : List Nat} {P : Tr → Rho → Prop} (k : okF (F [.val d, .val e, .val f]) fun r _ => P r ρ) : okM (callN T 3 F [.d d, .d e, .d f] ρ) P := okM_pure (ds := [d, e, f]) rfl k
@[simp] theorem flatD_i {i : Int} : flatD (.int i) = true := rfl
@[simp] theorem flatD_s {i : Str} : flatD (.str i) = true := rfl
@[simp] theorem flatD_b {i : Bool} : flatD (.bool i) = true := rfl
@[simp] theorem flatD_n : flatD .none = true := rfl
end VL

end

section
set_option Elab.async false
set_option linter.all false
set_option maxRecDepth 100000
namespace VL
open PySem PySem.Spec PyProof.Rows L2
noncomputable def unown : Sl → Bool
  | .own _ _ => false
  | .al _ _ => false
  | _ => true
theorem compGo_map {α : Type} {D : α → PyData} {v : Nat} {G : MG} {tt : M Bool} {te : M Rv} {ρ : Rho} (p : α → Bool) (f : α → PyData) (vs : List Nat) (R : α → Rho) (ρ0 : Rho) :
    ∀ (ds : List α) (acc : List PyData), acc.length + ds.length ≤ 16777216 → (∀ d ∈ ds, G (D d) ρ0 = some (R d) ∧ tt (R d) = some (.ok (p d) (R d)) ∧ (p d = true → te (R d) = some (.ok (.d (f d)) (R d))) ∧ noOwn (R d) vs = true ∧ wipeR (R d) vs = ρ0) →
    compGo vs G tt te (ds.map D) acc ρ0 = some (acc ++ (ds.filter p).map f, ρ0)
  | [], acc, _, _ => by simp [compGo]
  | d :: ds, acc, hl, h => by
    have again := fun acc' hl' => compGo_map (v := v) (G := G) (tt := tt) (te := te) (ρ := ρ) p f vs R ρ0 ds acc' hl' fun y hy => h y (List.mem_cons_of_mem _ hy)
    obtain ⟨e1, e2, e3, e4, e5⟩ := h d List.mem_cons_self
    simp only [List.length_cons] at hl
    rw [List.map_cons]
    unfold compGo
    rw [e1]
    simp only
    rw [e2]
    cases hp : p d with
    | true =>
      simp only [e3 hp, e4, e5, small_of (show acc.length + 1 ≤ 16777216 by omega), Bool.and_self, if_true]
      rw [again (acc ++ [f d]) (by simp; omega)]
      simp [List.filter_cons, hp]
    | false =>
      simp only [e4, e5, if_true]
      rw [again acc (by omega)]
      simp [List.filter_cons, hp]
theorem okM_compM {α : Type} {D : α → PyData} {ds : List α} {fi : M (List PyData)} {v : Nat} {tt : M Bool} {te : M Rv} {ρ : Rho} {Q : Tr → Rho → Prop} {s : Sl} (p : α → Bool) (f : α → PyData) (hi : fi ρ = some (.ok (ds.map D) ρ)) (hl : ds.length ≤ 16777216) (hv : ρ[v]? = some s) (hs : unown s = true)
    (ht : ∀ d ∈ ds, tt (ρ.set v (.val (D d))) = some (.ok (p d) (ρ.set v (.val (D d))))) (he : ∀ d ∈ ds, p d = true → te (ρ.set v (.val (D d))) = some (.ok (.d (f d)) (ρ.set v (.val (D d)))))
    (k : Q (.lst (((ds.filter p).map f).map .dat)) ρ) : okM (nComp fi [v] (gN v) tt te ρ) Q := by
  have hvl : v < ρ.length := (List.getElem?_eq_some_iff.mp hv).1
  refine okM_comp ?_
  rw [hi, okM_ok]
  have n1 : noOwn ρ [v] = true := by
    simp only [noOwn_cons, noOwn_nil, hv, Bool.and_true]
    cases s <;> first | rfl | cases hs
  have nn : noOwn (ρ.set v .no) [v] = true := by
    simp only [noOwn_cons, noOwn_nil, Bool.and_true]
    rw [List.getElem?_set_self hvl]
  refine ⟨n1, ?_⟩
  have w : wipeR ρ [v] = ρ.set v .no := rfl
  rw [w, compGo_map (v := v) (ρ := ρ) p f [v] (fun d => ρ.set v (.val (D d))) (ρ.set v .no) ds [] (by simpa using hl) fun d hd => ⟨?_, ht d hd, he d hd, ?_, ?_⟩]
  · rw [okO_some]
    refine ⟨nn, ?_⟩
    have e : restR ρ (ρ.set v .no) [v] = ρ := by
      simp only [restR_cons, restR_nil, hv]
      rw [List.set_set]
      apply List.ext_getElem?
      intro j
      by_cases hj : v = j
      · subst hj
        rw [List.getElem?_set_self hvl, hv]
      · rw [List.getElem?_set_ne hj]
    rw [e]
    simpa using k
  · rw [gN_eq, setSl_eq, List.getElem?_set_self hvl, frB_no, if_pos rfl, List.set_set]
  · simp only [noOwn_cons, noOwn_nil, Bool.and_true]
    rw [List.getElem?_set_self hvl]
  · simp only [wipeR_cons, wipeR_nil]
    rw [List.set_set]
theorem okM_of {α : Type} {o : Option (Er α)} {a : α} {ρ : Rho} (h : okM o fun x ρ1 => x = a ∧ ρ1 = ρ) : o = some (.ok a ρ) := by
  obtain ⟨x, ρ1, e, rfl, rfl⟩ := h
  exact e
noncomputable def tr (xs : List PyData) : Tr := .lst (xs.map .dat)
@[simp] theorem isNode_tr {xs : List PyData} : isNode (tr xs) = true := rfl
theorem toD_tr {xs : List PyData} : (tr xs).toD = some (.list xs) := by unfold tr; rw [toD_lst, toDs_map, Option.map_some]
@[simp] theorem rdSl_tr {i : Nat} {m : Md} {xs : List PyData} : rdSl i (some (.own m (tr xs))) = some (.o i) := rfl
@[simp] theorem dsSl_tr {m : Md} {xs : List PyData} : dsSl (some (.own m (tr xs))) = some (.list xs) := by
  show (flat (xs.map .dat)).map PyData.list = _
  rw [flat_dat]
  rfl
@[simp] theorem der_tr {xs : List PyData} : (tr xs).toD = some (.list xs) := toD_tr
end VL

end

section
set_option Elab.async false
set_option linter.all false
set_option maxRecDepth 100000
set_option maxHeartbeats 2000000
namespace SM
open PySem
noncomputable def s_BadNumber : Str := ⟨#[66, 97, 100, 78, 117, 109, 98, 101, 114]⟩
theorem e_BadNumber : ("BadNumber" : Str) = s_BadNumber := by decide +kernel
noncomputable def s_Closed : Str := ⟨#[67, 108, 111, 115, 101, 100]⟩
theorem e_Closed : ("Closed" : Str) = s_Closed := by decide +kernel
noncomputable def s_NoBargain : Str := ⟨#[78, 111, 66, 97, 114, 103, 97, 105, 110]⟩
theorem e_NoBargain : ("NoBargain" : Str) = s_NoBargain := by decide +kernel
noncomputable def s_NoMember : Str := ⟨#[78, 111, 77, 101, 109, 98, 101, 114]⟩
theorem e_NoMember : ("NoMember" : Str) = s_NoMember := by decide +kernel
noncomputable def s_NoOffer : Str := ⟨#[78, 111, 79, 102, 102, 101, 114]⟩
theorem e_NoOffer : ("NoOffer" : Str) = s_NoOffer := by decide +kernel
noncomputable def s_NoQuarrel : Str := ⟨#[78, 111, 81, 117, 97, 114, 114, 101, 108]⟩
theorem e_NoQuarrel : ("NoQuarrel" : Str) = s_NoQuarrel := by decide +kernel
noncomputable def s_NoRow : Str := ⟨#[78, 111, 82, 111, 119]⟩
theorem e_NoRow : ("NoRow" : Str) = s_NoRow := by decide +kernel
noncomputable def s_NoSign : Str := ⟨#[78, 111, 83, 105, 103, 110]⟩
theorem e_NoSign : ("NoSign" : Str) = s_NoSign := by decide +kernel
noncomputable def s_NoText : Str := ⟨#[78, 111, 84, 101, 120, 116]⟩
theorem e_NoText : ("NoText" : Str) = s_NoText := by decide +kernel
noncomputable def s_NoWay : Str := ⟨#[78, 111, 87, 97, 121]⟩
theorem e_NoWay : ("NoWay" : Str) = s_NoWay := by decide +kernel
noncomputable def s_NotSeen : Str := ⟨#[78, 111, 116, 83, 101, 101, 110]⟩
theorem e_NotSeen : ("NotSeen" : Str) = s_NotSeen := by decide +kernel
noncomputable def s_NotTheirs : Str := ⟨#[78, 111, 116, 84, 104, 101, 105, 114, 115]⟩
theorem e_NotTheirs : ("NotTheirs" : Str) = s_NotTheirs := by decide +kernel
noncomputable def s_NothingLeft : Str := ⟨#[78, 111, 116, 104, 105, 110, 103, 76, 101, 102, 116]⟩
theorem e_NothingLeft : ("NothingLeft" : Str) = s_NothingLeft := by decide +kernel
noncomputable def s_Own : Str := ⟨#[79, 119, 110]⟩
theorem e_Own : ("Own" : Str) = s_Own := by decide +kernel
noncomputable def s_TooMany : Str := ⟨#[84, 111, 111, 77, 97, 110, 121]⟩
theorem e_TooMany : ("TooMany" : Str) = s_TooMany := by decide +kernel
noncomputable def s_Twice : Str := ⟨#[84, 119, 105, 99, 101]⟩
theorem e_Twice : ("Twice" : Str) = s_Twice := by decide +kernel
noncomputable def s_Unlike : Str := ⟨#[85, 110, 108, 105, 107, 101]⟩
theorem e_Unlike : ("Unlike" : Str) = s_Unlike := by decide +kernel
noncomputable def s_x : Str := ⟨#[]⟩
theorem e_x : ("" : Str) = s_x := by decide +kernel
noncomputable def s_x2b : Str := ⟨#[43]⟩
theorem e_x2b : ("+" : Str) = s_x2b := by decide +kernel
end SM
namespace VL
open PySem PySem.Spec PyProof.Rows L2 SM
noncomputable def kNames : List Str := [s_BadNumber, s_Closed, s_NoBargain, s_NoMember, s_NoOffer, s_NoQuarrel, s_NoRow, s_NoSign, s_NoText, s_NoWay, s_NotSeen, s_NotTheirs, s_NothingLeft, s_Own, s_TooMany, s_Twice, s_Unlike]
noncomputable def gKinds (a : Addr) (c : Str) : MS := (sSeq (sSet 1 (cFrz (nLst (aCons (cIsE 0 a (c == s_BadNumber)) (aCons (cIsE 0 a (c == s_Closed)) (aCons (cIsE 0 a (c == s_NoBargain)) (aCons (cIsE 0 a (c == s_NoMember)) aNil)))))))
  (sSeq (sSet 1 (cBin addD (cVar 1) (cFrz (nLst (aCons (cIsE 0 a (c == s_NoOffer)) (aCons (cIsE 0 a (c == s_NoQuarrel)) (aCons (cIsE 0 a (c == s_NoRow)) (aCons (cIsE 0 a (c == s_NoSign)) aNil))))))))
  (sSeq (sSet 1 (cBin addD (cVar 1) (cFrz (nLst (aCons (cIsE 0 a (c == s_NoText)) (aCons (cIsE 0 a (c == s_NoWay)) (aCons (cIsE 0 a (c == s_NotSeen)) (aCons (cIsE 0 a (c == s_NotTheirs)) aNil))))))))
  (sSeq (sSet 1 (cBin addD (cVar 1) (cFrz (nLst (aCons (cIsE 0 a (c == s_NothingLeft)) (aCons (cIsE 0 a (c == s_Own)) (aCons (cIsE 0 a (c == s_TooMany)) (aCons (cIsE 0 a (c == s_Twice)) aNil))))))))
  (sSeq (sSet 1 (cBin addD (cVar 1) (cFrz (nLst (aCons (cIsE 0 a (c == s_Unlike)) (aCons (cIsE 0 a true) aNil))))))
  (sSeq (sSet 2 (cFrz (nLst (aCons (cD (.str s_BadNumber)) (aCons (cD (.str s_Closed)) (aCons (cD (.str s_NoBargain)) (aCons (cD (.str s_NoMember)) (aCons (cD (.str s_NoOffer)) (aCons (cD (.str s_NoQuarrel)) (aCons (cD (.str s_NoRow)) (aCons (cD (.str s_NoSign)) (aCons (cD (.str s_NoText)) aNil))))))))))))
  (sSeq (sSet 2 (cBin addD (cVar 2) (cFrz (nLst (aCons (cD (.str s_NoWay)) (aCons (cD (.str s_NotSeen)) (aCons (cD (.str s_NotTheirs)) (aCons (cD (.str s_NothingLeft)) (aCons (cD (.str s_Own)) (aCons (cD (.str s_TooMany)) (aCons (cD (.str s_Twice)) (aCons (cD (.str s_Unlike)) (aCons (cD (.str s_x2b)) aNil)))))))))))))
  (sRet (nDat (cJoin (cD (.str s_x)) (cFrz (nComp (iRange1 (aCons (cD (.int 18)) aNil)) [3] (gN 3) (cTest (cBin subD (cVar 1) (cVar 3))) (cBin subD (cVar 2) (cVar 3))))))))))))))
structure TabOk (K : PySem.W.Frag) (mg : Str → Option Value) (tab : List (Str × Addr)) (Hc : Addr) : Prop where
  mg : ∀ y ay, (y, ay) ∈ tab → mg y = some (.ref ay)
  nd : (tab.map (·.2)).Nodup
  ex : ∀ y ay, (y, ay) ∈ tab → ExcF K (tab.map (·.2)) ay
  hx : ∀ y ay, (y, ay) ∈ tab → PySem.W.exmOne K (.ref ay) (.ref Hc) = some true
noncomputable def tabB (K : PySem.W.Frag) (as : List Addr) (Hc : Addr) : Bool := decide as.Nodup && as.all fun C => excB K as C && (PySem.W.exmOne K (.ref C) (.ref Hc) == some true)
theorem tab_of {K : PySem.W.Frag} {mg : Str → Option Value} {tab : List (Str × Addr)} {Hc : Addr} (hm : ∀ y ay, (y, ay) ∈ tab → mg y = some (.ref ay)) (h : tabB K (tab.map (·.2)) Hc = true) : TabOk K mg tab Hc := by
  unfold tabB at h
  rw [Bool.and_eq_true, List.all_eq_true] at h
  obtain ⟨h1, h2⟩ := h
  have h3 : ∀ y ay, (y, ay) ∈ tab → excB K (tab.map (·.2)) ay = true ∧ (PySem.W.exmOne K (.ref ay) (.ref Hc) == some true) = true := fun y ay hy => by
    have := h2 ay (List.mem_map.mpr ⟨_, hy, rfl⟩)
    rwa [Bool.and_eq_true] at this
  exact ⟨hm, of_decide_eq_true h1, fun y ay hy => excF_of (h3 y ay hy).1, fun y ay hy => beq_iff_eq.mp (h3 y ay hy).2⟩
theorem nodup_snd {α β : Type} : ∀ {l : List (α × β)} {a b : α} {c : β}, (l.map (·.2)).Nodup → (a, c) ∈ l → (b, c) ∈ l → a = b
  | [], _, _, _, _, h, _ => by cases h
  | (x, y) :: l, a, b, c, n, h1, h2 => by
    rw [List.map_cons, List.nodup_cons] at n
    rcases List.mem_cons.mp h1 with e1 | h1
    · rcases List.mem_cons.mp h2 with e2 | h2
      · cases e1; cases e2; rfl
      · cases e1; exact absurd (List.mem_map.mpr ⟨_, h2, rfl⟩) n.1
    · rcases List.mem_cons.mp h2 with e2 | h2
      · cases e2; exact absurd (List.mem_map.mpr ⟨_, h1, rfl⟩) n.1
      · exact nodup_snd n.2 h1 h2
theorem TabOk.kit {K : PySem.W.Frag} {mg : Str → Option Value} {tab : List (Str × Addr)} {Hc : Addr} (T : TabOk K mg tab Hc) {c y : Str} {D ay : Addr} (hc : c ∈ tab.map (·.1)) (hD : mg c = some (.ref D)) (hy : (y, ay) ∈ tab) : PySem.W.kitOne K (.ref D) (.ref ay) = some (c == y) := by
  obtain ⟨⟨c', ac⟩, hcm, rfl⟩ := List.mem_map.mp hc
  have e : D = ac := by
    have := T.mg _ _ hcm
    rw [hD] at this
    cases this
    rfl
  subst e
  rw [(T.ex _ _ hcm).ds ay (List.mem_map.mpr ⟨_, hy, rfl⟩)]
  congr 1
  rw [Bool.eq_iff_iff, beq_iff_eq, beq_iff_eq]
  constructor
  · intro e
    subst e
    exact nodup_snd T.nd hcm hy
  · intro e
    have := T.mg _ _ hy
    rw [← e, hD] at this
    cases this
    rfl
theorem TabOk.tryF {K : PySem.W.Frag} {mg : Str → Option Value} {tab : List (Str × Addr)} {Hc : Addr} (T : TabOk K mg tab Hc) (ht : tab.map (·.1) = kNames) : ∀ c ∈ kNames, ∃ C, mg c = some (.ref C) ∧ PySem.W.exmOne K (.ref C) (.ref Hc) = some true := fun c hc => by
  rw [← ht] at hc
  obtain ⟨⟨c', ac⟩, hcm, rfl⟩ := List.mem_map.mp hc
  exact ⟨ac, T.mg _ _ hcm, T.hx _ _ hcm⟩
theorem TabOk.exc {K : PySem.W.Frag} {mg : Str → Option Value} {tab : List (Str × Addr)} {Hc : Addr} (T : TabOk K mg tab Hc) {c : Str} {D : Addr} (hc : c ∈ tab.map (·.1)) (hD : mg c = some (.ref D)) : ExcF K (tab.map (·.2)) D := by
  obtain ⟨⟨c', ac⟩, hcm, rfl⟩ := List.mem_map.mp hc
  have := T.mg _ _ hcm
  rw [hD] at this
  cases this
  exact T.ex _ _ hcm
theorem okM_cIsE {i : Nat} {a : Addr} {b : Bool} {ρ : Rho} {m : Md} {P : Rv → Rho → Prop} (h : ρ[i]? = some (.own m (.raw (.ref a)))) : okM (cIsE i a b ρ) P ↔ P (.d (.bool b)) ρ := by
  unfold cIsE
  rw [h]
  simp
noncomputable def kFlags (c : Str) : List Bool := (kNames.map fun n => c == n) ++ [true]
noncomputable def kWords : List Str := kNames ++ [s_x2b]
noncomputable def kJ (c : Str) : List Str := ((List.range 18).filter fun i => (kFlags c)[i]?.getD false).map fun i => kWords[i]?.getD s_x
noncomputable def kChk (c : Str) : Bool := decide (Txt.join s_x (kJ c) = c ++ plusS) && decide (((kJ c).map (·.length)).sum + (kJ c).length * s_x.length ≤ 16777216)
theorem kChk_all : kNames.all kChk = true := by decide +kernel
theorem strsD_map {ss : List Str} : strsD (ss.map .str) = some ss := by
  induction ss with
  | nil => rfl
  | cons s ss ih =>
    show (strsD (ss.map .str)).map (s :: ·) = _
    rw [ih]
    rfl
theorem kinds_run (a : Addr) : ∀ c ∈ kNames, ∃ ρ', gKinds a c [.own .pin (.raw (.ref a)), .no, .no, .no] = some (.rt (.dat (.str (c ++ plusS))) ρ') := by
  intro c hc
  have ck := List.all_eq_true.mp kChk_all c hc
  unfold kChk at ck
  rw [Bool.and_eq_true, decide_eq_true_eq, decide_eq_true_eq] at ck
  have isE : ∀ (b : Bool) (x y z : Sl) (P : Rv → Rho → Prop), okM (cIsE 0 a b [.own .pin (.raw (.ref a)), x, y, z]) P ↔ P (.d (.bool b)) [.own .pin (.raw (.ref a)), x, y, z] := fun b x y z P => okM_cIsE rfl
  have h : okS (gKinds a c [.own .pin (.raw (.ref a)), .no, .no, .no]) fun o => ∃ ρ', o = .rt (.dat (.str (c ++ plusS))) ρ' := by
    unfold gKinds
    rw [okS_seq]
    refine okS_set ?_
    simp [isE]
    rw [okS_seq]
    refine okS_set ?_
    simp [isE]
    rw [okS_seq]
    refine okS_set ?_
    simp [isE]
    rw [okS_seq]
    refine okS_set ?_
    simp [isE]
    rw [okS_seq]
    refine okS_set ?_
    simp [isE]
    rw [okS_seq]
    refine okS_set ?_
    simp
    rw [okS_seq]
    refine okS_set ?_
    simp
    refine okS_ret ?_
    have e1 : ∀ xs ys : List PyData, xs = (kFlags c).map .bool → ys = kWords.map .str → okM (nDat (cJoin (cD (.str s_x)) (cFrz (nComp (iRange1 (aCons (cD (.int 18)) aNil)) [3] (gN 3) (cTest (cBin subD (cVar 1) (cVar 3))) (cBin subD (cVar 2) (cVar 3))))) [.own .pin (.raw (.ref a)), .val (.list xs), .val (.list ys), .no]) fun t ρ1 => ∃ ρ', Out.rt t ρ1 = .rt (.dat (.str (c ++ plusS))) ρ' := by
      intro xs ys hx hy
      have lx : xs.length = 18 := by rw [hx]; rfl
      have ly : ys.length = 18 := by rw [hy]; rfl
      rw [okM_nDat]
      unfold cJoin
      rw [okM_bnd, okM_cD]
      simp only []
      rw [okM_bnd, okM_cFrz]
      refine okM_compM (D := fun i : Nat => PyData.int (i : Nat)) (ds := List.range 18) (fun i => (kFlags c)[i]?.getD false) (fun i => .str (kWords[i]?.getD s_x)) rfl (by simp) rfl rfl (fun i hi => okM_of ?_) (fun i hi _ => okM_of ?_) ?_
      · have hi : i < 18 := List.mem_range.mp hi
        have : atI xs (i : Nat) = some (.bool ((kFlags c)[i]?.getD false)) := by
          rw [atI_cast (by omega), hx, List.getElem?_map]
          have hl : i < (kFlags c).length := hi
          rw [List.getElem?_eq_getElem hl]
          rfl
        simp [this]
      · have hi : i < 18 := List.mem_range.mp hi
        have : atI ys (i : Nat) = some (.str (kWords[i]?.getD s_x)) := by
          rw [atI_cast (by omega), hy, List.getElem?_map]
          have hl : i < kWords.length := hi
          rw [List.getElem?_eq_getElem hl]
          rfl
        simp [this]
      · have ej : (List.filter (fun i => (kFlags c)[i]?.getD false) (List.range 18)).map (fun i => PyData.str (kWords[i]?.getD s_x)) = (kJ c).map .str := by
          unfold kJ
          rw [List.map_map]
          rfl
        rw [ej, toD_lst, toDs_map, Option.map_some, okO_some]
        unfold join1
        simp only [derS_d, strsD_map]
        rw [if_pos ck.2, okM_ok, rvd_d, okO_some, ck.1]
        exact ⟨_, rfl⟩
    exact e1 _ _ rfl rfl
  obtain ⟨o, e, ρ', rfl⟩ := h
  exact ⟨ρ', e⟩
section
variable {P : Program} {w : World} {K : PySem.W.Frag} {mg : Str → Option Value} {base : Heap}
theorem fn_kinds {x qual : Str} {st : Stmt} {f : Addr} {fd : FuncData} {k : Nat} {tab : List (Str × Addr)} {Hc : Addr} (F : Fun K x qual st f fd) (S : FnScope ["e", "some", "words", "k"] ["e"] (defScope st)) (T : TabOk K mg tab Hc) (ht : tab.map (·.1) = kNames)
    (hb : ∀ (c : Str) (D : Addr), c ∈ tab.map (·.1) → mg c = some (.ref D) → ExcC K D → PySem.W.kitOne K (.ref D) (.type "ValueError") = some true → ∀ (cdv : Value) (A : Around) (outer : List Env) (s : Shared) (H : Hp) (E : XK) (p : Addr × Obj), L2H.Hot1 A p → Zc (.ref D) none p.2 → (∃ vs, p.2.data = .fields vs) →
      VSs (L2H.cxH CX0 P w K mg base ["e", "some", "words", "k"] qual (defScope st) f cdv A outer s H E p) W0 (defBody st) (gKinds p.1 c)) :
    VLH.FnE P w K mg base (k + 1) f fd ["e"] (spK K mg kNames) := by
  refine VLH.fn_ofE F S (fun a D vs H Q E h => by obtain ⟨rfl, _⟩ := h; rfl) fun cdv A outer s H vs Q E p D hot hz hr h => ?_
  obtain ⟨rfl, c, hc, hm, F0, hF0, hT0, hQ⟩ := h
  have hc' : c ∈ tab.map (·.1) := by rw [ht]; exact hc
  have ex := T.exc hc' hm
  refine ⟨_, hb c D hc' hm ex.c ex.ve cdv A outer s H E p hot hz (let ⟨v, h, _⟩ := hot.2; ⟨v, h⟩), ?_⟩
  obtain ⟨ρ', e⟩ := kinds_run p.1 c hc
  refine ⟨F0, [.own .pin (.raw (.ref p.1)), .no, .no, .no], fun _ => [], _, ⟨hF0, rfl, fun i s h => ?_, fun _ _ => rfl, fun _ => List.nodup_nil, (fun _ _ _ h => nomatch h), hT0, fun j i p t h _ => by
    match j, h with
    | 0, h => cases h
    | 1, h => cases h
    | 2, h => cases h
    | 3, h => cases h
    | j + 4, h => simp at h⟩, e, fun v A' σ' H' F' fp' st n => ?_⟩
  · match i, h with
    | 0, h => cases h; exact ⟨_, rfl, .raw⟩
    | 1, h => cases h; trivial
    | 2, h => cases h; trivial
    | 3, h => cases h; trivial
    | i + 4, h => simp at h
  · cases n.ok with
    | dat q =>
      cases q
      exact hQ F' H' ⟨fun b o h nt => st.frame b o h (fun ⟨i, z⟩ => by cases z) nt, st.dom, st.fr, st.env.sub, fun b h h' => (st.nf b h h').imp_right (fun z => z.elim (fun ⟨i, z⟩ => by cases z) id), st.env.tb⟩
end
end VL

end

section
set_option Elab.async false
set_option linter.all false
set_option maxRecDepth 100000
namespace VL
open PySem PySem.Spec PyProof.Rows L2
section
variable {α β : Type} {ρ : Rho}
@[simp] theorem okS_raise {c : Str} {P : Out → Prop} : okS (sRaise c ρ) P ↔ P (.ex c ρ) := okS_some
@[simp] theorem okM_nCallR {Ts : List Nat} {m : Nat} {F : Fn} {f : M (List Rv)} {P : Tr → Rho → Prop} : okM (nCallR Ts m F f ρ) P ↔ okM (f ρ) fun rs ρ1 => okM (callR Ts m F rs ρ1) P := by
  unfold nCallR
  simp only [okM_bnd]
section
variable {ds : List PyData} {n : Nat} {T : List Nat} {F : Fn}
theorem pure_2 : ∀ (ds : List PyData) (i : Nat), posOf (ds.map .d) i = none
  | [], _ => rfl
  | d :: ds, i => by simp [pure_2 ds i]
end
@[simp] theorem isNo_no : isNo (some .no) = true := rfl
end
end VL

end

section
set_option Elab.async false
set_option linter.all false
set_option maxRecDepth 100000
namespace VL
open PySem PySem.Spec PyProof.Rows L2
section
variable {X : Cx} {T T1 T2 T3 : List Nat} {W : WV} {K : Fg} {fp1 : M (Nat × List Nat)} {a : Expr} {pos p : Pos}
noncomputable def nMv (i : Nat) : M Tr := fun ρ => match ρ[i]? with
  | some (.own .free t) => some (.ok t (ρ.set i (.own .free .hole)))
  | _ => none
noncomputable def cutP1 (Ts : List Nat) (r : Nat × List Nat) (lo hi : Option Int) : M Rv := fun ρ => if Ts.contains r.1 then none else match treeAt ρ r with
  | some (.lst ts) => (match flat ts with
    | some ds => (match cutD (.list ds) lo hi with
      | some z => some (.ok (.d z) ρ)
      | none => none)
    | none => none)
  | _ => none
noncomputable def cCutP (Ts : List Nat) (f : M (Nat × List Nat)) (fl fh : M (Option Int)) : M Rv := bnd f fun r => bnd fl fun lo => bnd fh fun hi => cutP1 Ts r lo hi
variable {fl fh : M (Option Int)} {lo hi : Option Expr} {p2 : Pos}
noncomputable def cIsiP (B : BT) (f : M (Nat × List Nat)) : M Rv := bnd f fun r => fun ρ => match (treeAt ρ r).bind Tr.toD with
  | some d => (match isiD B d with
    | some b => some (.ok (.d (.bool b)) ρ)
    | none => none)
  | none => none
end
end VL

end

section
set_option Elab.async false
set_option linter.all false
set_option maxRecDepth 100000
namespace VL
open PySem PySem.Spec PyProof.Rows L2
section
variable {X : Cx} {T T1 T2 T3 T4 T5 : List Nat} {W : WV} {K : Fg} {pos p : Pos}
variable {fp1 : M (Nat × List Nat)} {fa : M Rv} {o i e : Expr} {apos cpos : Pos}
variable {fi fe : M Rv} {tpos : Pos}
end
end VL

end

section
set_option Elab.async false
set_option linter.all false
set_option maxRecDepth 100000
namespace VL
open PySem PySem.Spec PyProof.Rows L2
section
variable {X : Cx} {T : List Nat} {W : WV} {K : Fg} {pos : Pos}
end
end VL

end

section
set_option Elab.async false
set_option linter.all false
set_option maxRecDepth 100000
set_option maxHeartbeats 2000000
namespace VL
open PySem PySem.Spec PyProof.Rows L2
noncomputable def keyIx {κ α : Type} [DecidableEq κ] (k : κ) : List (κ × α) → Option Nat
  | [] => none
  | (g, _) :: r => if g = k then some 0 else (keyIx k r).map (· + 1)
structure FldOk (K : Fg) (c : Str) (f : Str) : Prop where
  cl : ∀ C, PySem.W.nsIn K mainGlobals c = some (some (.ref C)) → Cls K C ∧ NoAttr K C f
noncomputable def pFld (c f : Str) (fo : M (Nat × List Nat)) : M (Nat × List Nat) := bnd fo fun r => fun ρ => match treeAt ρ r with
  | some (.ins c' fs) => if c' = c then (match keyIx f fs with
    | some j => some (.ok (r.1, r.2 ++ [j]) ρ)
    | none => none) else none
  | _ => none
section
variable {X : Cx} {T T1 T2 : List Nat} {W : WV} {K : Fg} {fp1 : M (Nat × List Nat)} {fa : M Rv} {fn : M Tr} {o e : Expr} {c f f' : Str} {pos pos' : Pos}
noncomputable def putFT (f : Str) (t : Tr) : List (Str × Tr) → List (Str × Tr)
  | [] => [(f, t)]
  | (g, x) :: r => if g = f then (g, t) :: r else (g, x) :: putFT f t r
noncomputable def fld1 (c f : Str) (T2 : List Nat) (tn : Tr) (r : Nat × List Nat) : MS := fun ρ => if !modeOk ρ r.1 then none else match treeAt ρ r with
  | some (.ins c' fs) => if c' = c ∧ fs.length < 1000 then some (.nx (putAt ρ r (.ins c (putFT f tn fs)))) else none
  | _ => none
noncomputable def sFldT (c f : Str) (g : M Tr) (fo : M (Nat × List Nat)) : MS := sE g fun t => sE fo (fld1 c f [] t)
noncomputable def isCls (c m : Str) (ρ : Rho) (i : Nat) : Bool := match ρ[i]? with
  | some (.own _ (.ins c' fs)) => decide (c' = c) && (keyIx m fs).isNone
  | _ => false
noncomputable def nMeth (c m : Str) (Ts : List Nat) (k : Nat) (G : Fn) (i : Nat) (fs : M (List Rv)) : M Tr := fun ρ => if isCls c m ρ i then bnd fs (fun xs => callR Ts k G (.o i :: xs)) ρ else none
end
section
variable {X : Cx} {T Ts : List Nat} {W : WV} {k m0 i : Nat} {g : Addr} {fd : FuncData} {ps : List Str} {G : Fn} {x c m m' : Str} {px apos pos : Pos} {e : Expr} {es : List Expr} {fs : M (List Rv)}
end
end VL

end

section
set_option Elab.async false
set_option linter.all false
set_option maxRecDepth 100000
set_option maxHeartbeats 2000000
namespace VL
open PySem PySem.Spec PyProof.Rows L2
section
variable {X : Cx} {CX : CXT} {k : Nat} {f C : Addr} {fd : FuncData} {ps : List Str} {sp : Sp} {E : Sg → XK} {x : Str} {p pos : Pos} {e : Expr} {es : List Expr} {t : TA}
end
section
variable {X : Cx} {T : List Nat} {W : WV} {k m0 : Nat} {g C : Addr} {fd : FuncData} {ps : List Str} {G : Fn} {x c : Str} {p pos : Pos} {e : Expr} {es : List Expr} {fs : M (List Rv)}
end
end VL

end

section
set_option Elab.async false
set_option linter.all false
set_option maxRecDepth 100000
set_option maxHeartbeats 2000000
namespace VL
open PySem PySem.Spec PyProof.Rows L2
section
variable {X : Cx} {T T1 T2 T3 : List Nat} {W : WV} {K : Fg} {fp1 : M (Nat × List Nat)} {fa : M Rv} {fn : M Tr} {o e : Expr} {pos p apos cpos : Pos}
noncomputable def nDictC (f : M (Nat × List Nat)) : M Tr := bnd f fun r => fun ρ => match treeAt ρ r with
  | some (.dk kvs) => (match dats kvs with
    | some ds => some (.ok (.dk (toT ds)) ρ)
    | none => none)
  | _ => none
noncomputable def popK1 (T2 : List Nat) (r : Nat × List Nat) (y : Rv) : MS := fun ρ => if T2.contains r.1 || !modeOk ρ r.1 then none else match y, treeAt ρ r with
  | .d kd, some (.dk kvs) => (match keyD kd, dats kvs with
    | some k, some ds => if (ds.any fun kv => decide (kv.1 = k)) then some (.nx (putAt ρ r (.dk (toT (ds.filter fun kv => decide (kv.1 ≠ k)))))) else none
    | _, _ => none)
  | _, _ => none
noncomputable def sPopK (T2 : List Nat) (f : M (Nat × List Nat)) (fk : M Rv) : MS := sE f fun r => fun ρ => if isDk (treeAt ρ r) then sE fk (popK1 T2 r) ρ else none
end
end VL

end

section
set_option Elab.async false
set_option linter.all false
set_option maxRecDepth 100000
set_option maxHeartbeats 2000000
namespace VL
open PySem PySem.Spec PyProof.Rows L2
section
variable {X : Cx} {T T1 T2 T3 : List Nat} {W : WV} {K : Fg} {fp1 : M (Nat × List Nat)} {fa : M Rv} {fn : M Tr} {o e k : Expr} {pos p apos cpos : Pos}
noncomputable def nListC (f : M (Nat × List Nat)) : M Tr := bnd f fun r => fun ρ => match treeAt ρ r with
  | some (.lst ts) => (match flat ts with
    | some ds => some (.ok (.lst (ds.map .dat)) ρ)
    | none => none)
  | _ => none
noncomputable def dtNil : M (List (Key × Tr)) := ret []
noncomputable def dtCons (k : Key) (f : M Tr) (g : M (List (Key × Tr))) : M (List (Key × Tr)) := bnd f fun t => bnd g fun kts => ret ((k, t) :: kts)
variable {keys : List (Option Expr)} {values : List Expr} {fs : M (List (Key × Tr))}
noncomputable def nDisp (fs : M (List (Key × Tr))) : M Tr := bnd fs fun kts => fun ρ => if decide (kts.length ≤ 15) && decide ((kts.map (·.1)).Nodup) then some (.ok (.dk kts) ρ) else none
end
end VL

end

section
set_option Elab.async false
set_option linter.all false
set_option maxRecDepth 100000
set_option maxHeartbeats 2000000
namespace VL
open PySem PySem.Spec PyProof.Rows L2
section
variable {κ : Type} [DecidableEq κ] {K : Fg}
noncomputable def putR {α : Type} (k : κ) (x : α) : List (κ × α) → List (κ × α)
  | [] => [(k, x)]
  | (g, y) :: r => if g = k then (g, x) :: r else (g, y) :: putR k x r
noncomputable def mergeR {α : Type} (xs more : List (κ × α)) : List (κ × α) := more.foldl (fun acc kx => putR kx.1 kx.2 acc) xs
end
section
variable {X : Cx} {T T1 T2 T3 : List Nat} {W : WV} {K : Fg} {fp1 : M (Nat × List Nat)} {fn : M Tr} {o e : Expr} {pos p apos cpos : Pos}
noncomputable def upd1 (T2 : List Nat) (r : Nat × List Nat) (tn : Tr) : MS := fun ρ => if T2.contains r.1 || !modeOk ρ r.1 then none else match treeAt ρ r, tn with
  | some (.dk kts), .dk us => if small (kts.length + us.length) && decide ((kts.map (·.1)).Nodup) then some (.nx (putAt ρ r (.dk (mergeR kts us)))) else none
  | _, _ => none
noncomputable def isDkk : Option Tr → Bool
  | some (.dk _) => true
  | _ => false
noncomputable def sUpd (T2 : List Nat) (f : M (Nat × List Nat)) (g : M Tr) : MS := sE f fun r => fun ρ => if isDkk (treeAt ρ r) then sE g (upd1 T2 r) ρ else none
end
end VL

end

section
set_option Elab.async false
set_option linter.all false
set_option maxRecDepth 100000
set_option maxHeartbeats 2000000
namespace VL
open PySem PySem.Spec PyProof.Rows L2
section
variable {X : Cx} {T T1 T2 T3 : List Nat} {W : WV} {K : Fg} {fp1 : M (Nat × List Nat)} {fn : M Tr} {o e : Expr} {pos p apos cpos : Pos}
noncomputable def nMvP (Ts : List Nat) (f : M (Nat × List Nat)) : M Tr := bnd f fun r => fun ρ => if Ts.contains r.1 && modeOk ρ r.1 then (match treeAt ρ r with
  | some t => some (.ok t (putAt ρ r .hole))
  | none => none) else none
noncomputable def nPopT (Ts : List Nat) (f : M (Nat × List Nat)) : M Tr := bnd f fun r => fun ρ => if Ts.contains r.1 && modeOk ρ r.1 then (match treeAt ρ r with
  | some (.lst ts) => (match ts.getLast? with
    | some t => some (.ok t (putAt ρ r (.lst ts.dropLast)))
    | none => none)
  | _ => none) else none
end
end VL

end

section
set_option Elab.async false
set_option linter.all false
set_option maxRecDepth 100000
set_option maxHeartbeats 2000000
namespace VL
open PySem PySem.Spec PyProof.Rows L2
section
variable {X : Cx} {T T1 T2 T3 : List Nat} {W : WV} {K : Fg} {fp1 : M (Nat × List Nat)} {fn : M Tr} {o e : Expr} {pos p apos cpos : Pos}
noncomputable def asSl : Tr → Sl
  | .dat d => .val d
  | t => .own .free t
noncomputable def sUnp (i j : Nat) (f : M Tr) : MS := sE f fun t => fun ρ => match t with
  | .tup [t1, t2] => (match setSl ρ i (asSl t1) with
    | some ρ1 => (setSl ρ1 j (asSl t2)).map .nx
    | none => none)
  | _ => none
noncomputable def copies : List Tr → Option (List (List (Key × PyData)))
  | [] => some []
  | .dk kvs :: ts => (match dats kvs, copies ts with
    | some ds, some r => some (ds :: r)
    | _, _ => none)
  | _ :: _ => none
noncomputable def copyT (dss : List (List (Key × PyData))) : List Tr := dss.map fun ds => .dk (toT ds)
noncomputable def nCopyDs (v : Nat) (f : M (Nat × List Nat)) : M Tr := bnd f fun r => fun ρ => match treeAt ρ r with
  | some (.lst ts) => (match copies ts with
    | some dss => if decide (v < ρ.length) && small dss.length then some (.ok (.lst (copyT dss)) ρ) else none
    | none => none)
  | _ => none
end
end VL

end

section
set_option Elab.async false
set_option linter.all false
set_option maxRecDepth 100000
set_option maxHeartbeats 1000000
namespace VL
open PySem PySem.Spec PyProof.Rows L2
section
variable {X : Cx} {T T1 T2 : List Nat} {W : WV} {K : Fg} {pos : Pos} {e : Expr}
variable {fp1 : M (Nat × List Nat)}
end
end VL

end

section
set_option Elab.async false
set_option linter.all false
set_option maxRecDepth 100000
set_option maxHeartbeats 1000000
namespace VL
open PySem PySem.Spec PyProof.Rows L2
section
variable {X : Cx} {T T1 T2 : List Nat} {W : WV} {K : Fg} {pos p : Pos} {a b e : Expr} {fp1 : M (Nat × List Nat)} {fn : M Tr}
noncomputable def cEmp (f : M (Nat × List Nat)) (g : M Tr) : M Bool := bnd f fun r => bnd g fun tn => fun ρ => match treeAt ρ r, tn with
  | some (.lst ts), .lst [] => some (.ok ts.isEmpty ρ)
  | _, _ => none
noncomputable def cLenP (f : M (Nat × List Nat)) : M Rv := bnd f fun r => fun ρ => match treeAt ρ r with
  | some (.lst ts) => some (.ok (.d (.int ts.length)) ρ)
  | _ => none
end
mutual
noncomputable def noL : PyData → Bool
  | .list _ => false
  | .dict _ => false
  | .tuple ds => noLs ds
  | _ => true
noncomputable def noLs : List PyData → Bool
  | [] => true
  | d :: ds => noL d && noLs ds
end
mutual
noncomputable def noLt : Tr → Bool
  | .dat d => noL d
  | .lst ts => noLts ts
  | .tup ts => noLts ts
  | _ => false
noncomputable def noLts : List Tr → Bool
  | [] => true
  | t :: ts => noLt t && noLts ts
end
noncomputable def cutF (F : Hp) (L : List Addr) : Hp := fun b => if b ∈ L then none else F b
section
variable {K : Fg} {F H : Hp} {L : List Addr}
theorem cutF_out {b : Addr} (h : b ∉ L) : cutF F L b = F b := if_neg h
mutual
theorem dq_cut (hL : ∀ b ∈ L, ∃ vs, F b = some (.lst vs)) : ∀ (d : PyData) (v : V), noL d = true → Dq K F v d → Dq K (cutF F L) v d
  | .none, _, _, h => by cases h; exact .non
  | .bool b, _, _, h => by cases h; exact .bl b
  | .int i, _, _, h => by cases h; exact .int i
  | .str x, _, _, h => by cases h; exact .str x
  | .list ds, _, c, h => by simp [noL] at c
  | .tuple ds, _, c, h => by
    cases h with
    | tups hs ha =>
      refine .tups ?_ (dqAll_cut hL ds _ (by simpa [noL] using c) ha)
      rcases hs with hs | hs
      · refine .inl ?_
        rw [cutF_out fun z => by obtain ⟨vs, e⟩ := hL _ z; rw [e] at hs; cases hs]
        exact hs
      · exact .inr hs
  | .dict _, _, c, _ => by simp [noL] at c
theorem dqAll_cut (hL : ∀ b ∈ L, ∃ vs, F b = some (.lst vs)) : ∀ (ds : List PyData) (vs : List V), noLs ds = true → DqAll K F vs ds → DqAll K (cutF F L) vs ds
  | [], _, _, h => by cases h; exact .nil
  | d :: ds, _, c, h => by
    have c' : noL d = true ∧ noLs ds = true := by simpa [noLs] using c
    cases h with
    | cons h1 h2 => exact .cons (dq_cut hL d _ c'.1 h1) (dqAll_cut hL ds _ c'.2 h2)
end
mutual
theorem tr_cut (hL : ∀ b ∈ L, ∃ vs, F b = some (.lst vs)) : ∀ {v : V} {t : Tr} {A : List Addr}, TrOk K F H v t A → noLt t = true → TrOk K (cutF F L) H v t A
  | _, _, _, .dat d, c => .dat (dq_cut hL _ _ (by simpa [noLt] using c) d)
  | _, _, _, @TrOk.tup _ _ _ a vs ts A e f r, c => by
    refine .tup e ⟨?_, f.2⟩ (trs_cut hL r (by simpa [noLt] using c))
    unfold cutF; split
    · rfl
    · exact f.1
  | _, _, _, @TrOk.lst _ _ _ a vs ts A e f r, c => by
    refine .lst e ?_ (trs_cut hL r (by simpa [noLt] using c))
    unfold cutF; split
    · rfl
    · exact f
  | _, _, _, .dk e f k r, c => by simp [noLt] at c
  | _, _, _, .dt e f k r, c => by simp [noLt] at c
  | _, _, _, .ins e f kc k r, c => by simp [noLt] at c
  | _, _, _, .fk e f r, c => by simp [noLt] at c
  | _, _, _, .ft e f r, c => by simp [noLt] at c
  | _, _, _, .raw, c => by simp [noLt] at c
  | _, _, _, .sd _ _, c => by simp [noLt] at c
  | _, _, _, .hole, c => by simp [noLt] at c
theorem trs_cut (hL : ∀ b ∈ L, ∃ vs, F b = some (.lst vs)) : ∀ {vs : List V} {ts : List Tr} {A : List Addr}, TrsOk K F H vs ts A → noLts ts = true → TrsOk K (cutF F L) H vs ts A
  | _, _, _, .nil, _ => .nil
  | _, _, _, @TrsOk.cons _ _ _ v vs t ts A B q r, c => by
    have c' : noLt t = true ∧ noLts ts = true := by simpa [noLts] using c
    exact .cons (tr_cut hL q c'.1) (trs_cut hL r c'.2)
end
end
inductive LA where
  | d (x : PyData)
  | p (r : Nat × List Nat)
noncomputable def LAOk (K : Fg) (F H : Hp) (σ : Sg) (ρ : Rho) (v : V) : LA → Prop
  | .d x => Dq K F v x
  | .p r => ∃ u m t t', sg σ r.1 = some u ∧ ρ[r.1]? = some (Sl.own m t) ∧ t.at r.2 = some t' ∧ pathV H u r.2 = some v
inductive LAsOk (K : Fg) (F H : Hp) (σ : Sg) (ρ : Rho) : List V → List LA → Prop
  | nil : LAsOk K F H σ ρ [] []
  | cons {v vs r rs} : LAOk K F H σ ρ v r → LAsOk K F H σ ρ vs rs → LAsOk K F H σ ρ (v :: vs) (r :: rs)
noncomputable def lNil : M (List LA) := ret []
noncomputable def lD (f : M Rv) (g : M (List LA)) : M (List LA) := bnd f fun x => bnd g fun ls => fun ρ => match x with
  | .d d => some (.ok (.d d :: ls) ρ)
  | _ => none
noncomputable def lP (f : M (Nat × List Nat)) (g : M (List LA)) : M (List LA) := bnd f fun r => bnd g fun ls => ret (.p r :: ls)
noncomputable def lendV (ρ : Rho) : List LA → Option (List PyData)
  | [] => some []
  | .d x :: ls => (lendV ρ ls).map (x :: ·)
  | .p r :: ls => match treeAt ρ r with
    | some (.lst ts) => (match flat ts with
      | some ds => (lendV ρ ls).map (.list ds :: ·)
      | none => none)
    | _ => none
noncomputable def callL (m : Nat) (f : Fn) (ls : List LA) : M Tr := fun ρ => match lendV ρ ls with
  | some ds => if ds.length = m then (match f (ds.map .val) with
    | some (.ret t, _) => if noLt t then some (.ok t ρ) else none
    | _ => none) else none
  | none => none
noncomputable def nLend (m : Nat) (f : Fn) (fs : M (List LA)) : M Tr := bnd fs (callL m f)
section
variable {X : Cx} {T T1 T2 : List Nat} {W : WV} {K : Fg} {pos p : Pos} {e : Expr} {es : List Expr} {fp1 : M (Nat × List Nat)} {fa : M Rv} {fs : M (List LA)}
theorem LAOk.step {F H F1 H1 : Hp} {σ : Sg} {ρ ρ1 : Rho} {fp fp1 : FP} {v : V} (E : EnvOk K F H σ ρ fp) (s : EStep K [] F H σ ρ fp F1 H1 ρ1 fp1) : ∀ {r : LA}, LAOk K F H σ ρ v r → LAOk K F1 H1 σ ρ1 v r
  | .d _, h => dq_mono s.st.fr _ _ h
  | .p r, h => place_step E s (fun z => nomatch z) h
end
section
variable {X : Cx} {W : WV} {k m : Nat} {f : Addr} {fd : FuncData} {ps : List Str} {F : Fn} {x : Str} {p pos : Pos} {e : Expr} {es : List Expr} {fs : M (List LA)}
end
end VL

end

section
set_option Elab.async false
set_option linter.all false
set_option maxRecDepth 100000
set_option maxHeartbeats 1000000
namespace VL
open PySem PySem.Spec PyProof.Rows L2
section
variable {X : Cx} {T T1 T2 : List Nat} {W : WV} {K : Fg} {pos : Pos} {e : Expr}
end
end VL

end

section
set_option Elab.async false
set_option linter.all false
set_option maxRecDepth 100000
set_option maxHeartbeats 1000000
namespace VL
open PySem PySem.Spec PyProof.Rows L2 PySem.W

section
variable {X : Cx} {pins : List (Addr × Obj)} {σ : L2.St} {H : Hp} {s : Shared}
end
section
variable {X : Cx} {te : TE} {e : Expr} {i k : Nat} {c P : Addr} {params : Arguments} {scope : Scope} {p pos lpos kpos p1 p2 p3 p4 p5 p6 p7 p8 p10 : Pos} {k6 k9 : Nat}
end
end VL

end

section
set_option Elab.async false
set_option linter.all false
set_option maxRecDepth 100000
set_option maxHeartbeats 1000000
namespace VL
open PySem PySem.Spec PyProof.Rows L2
section
variable {X : Cx} {T T1 T2 T3 : List Nat} {W : WV} {K : Fg} {fp1 : M (Nat × List Nat)} {fn : M Tr} {fa : M Rv} {o e : Expr} {pos p : Pos}
noncomputable def isAlOf (i : Nat) : Sl → Bool
  | .al k _ => decide (k = i)
  | _ => false
noncomputable def noAl (ρ : Rho) (i : Nat) : Bool := ρ.all fun s => !isAlOf i s
noncomputable def mkAl (j : Nat) (r : Nat × List Nat) (ρ : Rho) : Option Rho := match ρ[r.1]? with
  | some (.own .pin t) => (match t.at r.2, setSl ρ j .no with
    | some _, some ρ1 => if decide (r.1 ≠ j) && noAl ρ1 r.1 then some ((ρ1.set r.1 (.own (.bor r.2) t)).set j (.al r.1 r.2)) else none
    | _, _ => none)
  | _ => none
noncomputable def sAl (j : Nat) (f : M (Nat × List Nat)) : MS := sE f fun r => fun ρ => (mkAl j r ρ).map .nx
noncomputable def pAl (j : Nat) : M (Nat × List Nat) := fun ρ => match ρ[j]? with
  | some (.al i p) => (match ρ[i]? with
    | some (.own (.bor q) _) => if q = p then some (.ok (i, p) ρ) else none
    | _ => none)
  | _ => none
noncomputable def unbor (ρ : Rho) (i : Nat) : Rho := match ρ[i]? with
  | some (.own (.bor _) t) => ρ.set i (.own .pin t)
  | _ => ρ
noncomputable def sEd (i : Nat) (g : MS) : MS := fun ρ => g (unbor ρ i)
noncomputable def modeA (ρ : Rho) (r : Nat × List Nat) : Bool := match ρ[r.1]? with
  | some (.own .lock _) => false
  | some (.own (.bor p) _) => p.isPrefixOf r.2
  | some (.own _ _) => true
  | _ => false
noncomputable def dPutA1 (T2 : List Nat) (d : PyData) (r : Nat × List Nat) (y : Rv) : MS := fun ρ => if T2.contains r.1 || !modeA ρ r then none else match y, treeAt ρ r with
  | .d kd, some (.dk kvs) => (match keyD kd, dats kvs with
    | some k, some ds => if small (ds.length + 1) then some (.nx (putAt ρ r (.dk (toT (putP ds k d))))) else none
    | _, _ => none)
  | _, _ => none
noncomputable def sDPutA (T2 : List Nat) (fe : M Rv) (f : M (Nat × List Nat)) (fk : M Rv) : MS := sE fe fun x => match x with
  | .d d => sE f fun r => sE fk (dPutA1 T2 d r)
  | .o _ => fun _ => none
variable {fe fk : M Rv} {i : Expr} {pos' : Pos} {T4 : List Nat}
end
end VL

end

section
set_option Elab.async false
set_option linter.all false
set_option maxRecDepth 100000
set_option maxHeartbeats 1000000
namespace VL
open PySem PySem.Spec PyProof.Rows L2
noncomputable def isAl : Option Sl → Bool
  | some (.al _ _) => true
  | _ => false
noncomputable def killA (ρ : Rho) (i j : Nat) (t : Tr) : Rho := (ρ.set i (.own .pin t)).set j .no
noncomputable def backA (ρ : Rho) (i : Nat) (p : List Nat) : Option Rho := match ρ[i]? with
  | some (.own _ t) => if noAl ρ i then some (ρ.set i (.own (.bor p) t)) else none
  | _ => none
noncomputable def callK (Ts : List Nat) (m : Nat) (f : Fn) (i j : Nat) (rs : List Rv) : M Tr := fun ρ => match ρ[i]? with
  | some (.own (.bor p) t) => if isAl ρ[j]? then (match callR Ts m f rs (killA ρ i j t) with
    | some (.ok r ρ1) => (match backA ρ1 i p with
      | some ρ2 => some (.ok r ρ2)
      | none => none)
    | some (.ex c ρ1) => (match backA ρ1 i p with
      | some ρ2 => some (.ex c ρ2)
      | none => none)
    | none => none) else none
  | _ => none
section
variable {K : Fg} {F H : Hp} {σ : Sg} {ρ : Rho} {fp : FP} {i j : Nat} {p : List Nat} {t : Tr}
end
section
variable {X : Cx} {T : List Nat} {W : WV} {k m : Nat} {f : Addr} {fd : FuncData} {ps : List Str} {F : Fn} {Ts : List Nat} {i j : Nat}
end
noncomputable def nMethK (c m : Str) (Ts : List Nat) (k : Nat) (G : Fn) (i j : Nat) (fs : M (List Rv)) : M Tr := fun ρ => if isCls c m ρ i then bnd fs (fun xs => callK Ts k G i j (.o i :: xs)) ρ else none
section
variable {X : Cx} {T Ts : List Nat} {W : WV} {k m0 i : Nat} {g : Addr} {fd : FuncData} {ps : List Str} {G : Fn} {x c m m' : Str} {px apos pos : Pos} {e : Expr} {es : List Expr} {fs : M (List Rv)}
end
end VL

end

section
set_option Elab.async false
set_option linter.all false
set_option maxRecDepth 100000
set_option maxHeartbeats 1000000
namespace VL
open PySem PySem.Spec PyProof.Rows L2
section
variable {X : Cx} {T T1 T2 T3 T4 : List Nat} {W : WV} {K : Fg} {fp1 : M (Nat × List Nat)} {fn : M Tr} {fa fk : M Rv} {o e i : Expr} {pos pos' p : Pos}
noncomputable def pKey (T2 : List Nat) (f : M (Nat × List Nat)) (g : M Rv) : M (Nat × List Nat) := bnd f fun r => bnd g fun y => fun ρ => if T2.contains r.1 then none else match treeAt ρ r, y with
  | some (.dk kvs), .d d => (match keyD d with
    | some k => (match keyIx k kvs with
      | some j => some (.ok (r.1, r.2 ++ [j]) ρ)
      | none => none)
    | none => none)
  | _, _ => none
noncomputable def keyT1 (T2 : List Nat) (tn : Tr) (r : Nat × List Nat) (y : Rv) : MS := fun ρ => if T2.contains r.1 || !modeA ρ r then none else match y, treeAt ρ r with
  | .d kd, some (.dk kts) => (match keyD kd with
    | some k => if small (kts.length + 1) && decide ((kts.map (·.1)).Nodup) then some (.nx (putAt ρ r (.dk (putR k tn kts)))) else none
    | none => none)
  | _, _ => none
noncomputable def sKeyT (T2 : List Nat) (g : M Tr) (f : M (Nat × List Nat)) (fk : M Rv) : MS := sE g fun tn => sE f fun r => sE fk (keyT1 T2 tn r)
end
end VL

end

section
set_option Elab.async false
set_option linter.all false
set_option maxRecDepth 100000
set_option maxHeartbeats 1000000
namespace VL
open PySem PySem.Spec PyProof.Rows L2
section
variable {X : Cx} {T T1 T2 T3 T4 : List Nat} {W : WV} {K : Fg} {fp1 : M (Nat × List Nat)} {fn : M Tr} {fa fk : M Rv} {o e i a b : Expr} {pos pos' p : Pos}
noncomputable def shr : Tr → Tr
  | .dat d => .dat d
  | .sd d => .sd d
  | _ => .hole
noncomputable def shrK (kts : List (Key × Tr)) : List (Key × Tr) := kts.map fun p => (p.1, shr p.2)
noncomputable def nCatMv (Ts T2 : List Nat) (f : M (Nat × List Nat)) (g : M Tr) : M Tr := bnd f fun r => bnd g fun tn => fun ρ => if !T2.contains r.1 && (Ts.contains r.1 && modeOk ρ r.1) then (match treeAt ρ r, tn with
  | some (.lst ts), .lst us => if small (ts.length + us.length) then some (.ok (.lst (ts ++ us)) (putAt ρ r .hole)) else none
  | _, _ => none) else none
end
end VL

end

section
set_option Elab.async false
set_option linter.all false
set_option maxRecDepth 100000
set_option maxHeartbeats 1000000
namespace VL
open PySem PySem.Spec PyProof.Rows L2
section
variable {X : Cx} {T T1 T2 T3 T4 : List Nat} {W : WV} {K : Fg} {fp1 : M (Nat × List Nat)} {fn : M Tr} {fa fk : M Rv} {o e i a b : Expr} {pos pos' p : Pos}
noncomputable def copiesM : List Tr → Option (List (List (Key × Tr)))
  | [] => some []
  | .dk kts :: ts => (match copiesM ts with
    | some r => some (kts :: r)
    | none => none)
  | _ :: _ => none
noncomputable def copyM (dss : List (List (Key × Tr))) : List Tr := dss.map fun ds => .dk (shrK ds)
noncomputable def nCopyM (v : Nat) (f : M (Nat × List Nat)) : M Tr := bnd f fun r => fun ρ => match treeAt ρ r with
  | some (.lst ts) => (match copiesM ts with
    | some dss => if decide (v < ρ.length) && small dss.length then some (.ok (.lst (copyM dss)) ρ) else none
    | none => none)
  | _ => none
noncomputable def cCmpP (g : PyData → PyData → Option Bool) (T2 : List Nat) (fa : M Rv) (f : M (Nat × List Nat)) : M Bool := bnd fa fun x => bnd f fun r => fun ρ => match der ρ x, (treeAt ρ r).bind Tr.toD with
  | some a, some b => (match g a b with
    | some z => some (.ok z ρ)
    | none => none)
  | _, _ => none
end
end VL

end

section
set_option Elab.async false
set_option linter.all false
set_option maxRecDepth 100000
set_option maxHeartbeats 1000000
namespace VL
open PySem PySem.Spec PyProof.Rows L2
section
variable {X : Cx} {T T1 T2 T3 T4 : List Nat} {W : WV} {K : Fg} {fp1 : M (Nat × List Nat)} {fn : M Tr} {fa fk : M Rv} {o e i a b : Expr} {pos pos' p : Pos}
noncomputable def nCutMv (Ts T2 : List Nat) (f : M (Nat × List Nat)) (fl fh : M (Option Int)) : M Tr := bnd f fun r => bnd fl fun lo => bnd fh fun hi => fun ρ => if !T2.contains r.1 && (Ts.contains r.1 && modeOk ρ r.1) then (match treeAt ρ r with
  | some (.lst ts) => some (.ok (.lst (cutL ts lo hi)) (putAt ρ r .hole))
  | _ => none) else none
variable {fl fh : M (Option Int)} {lo hi : Option Expr} {p2 : Pos}
noncomputable def nCallP (G : Fn) (f : M (Nat × List Nat)) : M Tr := bnd f fun r => fun ρ => match treeAt ρ r with
  | some t => (match G [.own .lock t] with
    | some (.ret (.dat d), _) => some (.ok (.dat d) ρ)
    | _ => none)
  | none => none
end
end VL

end

section
set_option Elab.async false
set_option linter.all false
set_option maxRecDepth 100000
set_option maxHeartbeats 1000000
namespace VL
open PySem PySem.Spec PyProof.Rows L2
section
variable {X : Cx} {T T1 T2 T3 T4 : List Nat} {W : WV} {K : Fg} {fp1 : M (Nat × List Nat)} {fn : M Tr} {fa fk : M Rv} {o e a b : Expr} {pos pos' p tpos : Pos}
noncomputable def fzP (ρ : Rho) (r : Nat × List Nat) : Option Rho := if modeA ρ r then (match treeAt ρ r with
  | some (.dk kts) => (match dats kts with
    | some ds => some (putAt ρ r (.sd ds))
    | none => none)
  | _ => none) else none
noncomputable def sFzP (f : M (Nat × List Nat)) (g : MS) : MS := fun ρ => match f ρ with
  | some (.ok r _) => (match fzP ρ r with
    | some ρ1 => g ρ1
    | none => none)
  | _ => none
noncomputable def nDictS (f : M (Nat × List Nat)) : M Tr := bnd f fun r => fun ρ => match treeAt ρ r with
  | some (.sd ds) => some (.ok (.dk (toT ds)) ρ)
  | _ => none
noncomputable def lkS (ρ : Rho) (i : Nat) : Option Rho := if modeOk ρ i then (match ρ[i]? with
  | some (.own _ t) => some (ρ.set i (.own .lock t))
  | _ => none) else none
noncomputable def cLk (i : Nat) (f : M Rv) : M Rv := fun ρ => match lkS ρ i with
  | some ρ1 => (match f ρ1 with
    | some (.ok (.d d) ρ2) => (match ρ[i]? with
      | some s => some (.ok (.d d) (ρ2.set i s))
      | none => none)
    | _ => none)
  | none => none
end
end VL

end

section
set_option Elab.async false
set_option linter.all false
set_option maxRecDepth 100000
set_option maxHeartbeats 1000000
namespace VL
open PySem PySem.Spec PyProof.Rows L2
section
variable {X : Cx} {T T1 T2 T3 T4 : List Nat} {W : WV} {K : Fg} {fp1 : M (Nat × List Nat)} {o e a b : Expr} {pos pos' : Pos}
end
end VL

end

section
set_option Elab.async false
set_option linter.all false
set_option maxRecDepth 100000
set_option maxHeartbeats 1000000
namespace VL
open PySem PySem.Spec PyProof.Rows L2
section
variable {K : Fg} {F H : Hp} {σ : Sg} {ρ : Rho} {fp : FP} {jn jo k : Nat} {r : Nat × List Nat} {ρ1 : Rho} {m : Md} {t : Tr}
structure EnIn (K : Fg) (F H : Hp) (σ : Sg) (ρ : Rho) (fp : FP) (jn jo k : Nat) (r : Nat × List Nat) (ρ1 : Rho) (m : Md) (t : Tr) (u v : V) (pre B post : List Addr) (tk : Tr) : Prop where
  hi : ρ[r.1]? = some (.own m t)
  hm : modeOk ρ r.1 = true
  ns : r.1 ≠ jn ∧ r.1 ≠ jo ∧ jn ≠ jo ∧ jn < ρ.length ∧ jo < ρ.length
  nn : (∀ m t, ρ[jn]? ≠ some (.own m t)) ∧ ∀ m t, ρ[jo]? ≠ some (.own m t)
  hu : sg σ r.1 = some u
  hat : t.at (r.2 ++ [k]) = some tk
  hv : pathV H u (r.2 ++ [k]) = some v
  hfp : fp r.1 = pre ++ (B ++ post)
  r1 : ρ1 = ((ρ.set r.1 (.own .lock (t.put (r.2 ++ [k]) .hole))).set jn (.val (.int (k : Nat)))).set jo (.own .pin tk)
  env : EnvOk K F H ((σ.set jn (some (.int (k : Nat)))).set jo (some v)) ρ1 (fset (fset fp r.1 (pre ++ post)) jo B)
  back : ∀ F' H' t'' B', Same F F' → (∀ b, b ∈ pre ∨ b ∈ post → H' b = H b ∧ F' b = none) → TrOk K F' H' v t'' B' → TrOk K F' H' u (t.put (r.2 ++ [k]) t'') (pre ++ (B' ++ post)) ∧ pathV H' u (r.2 ++ [k]) = some v
  hole : TrOk K F H u (t.put (r.2 ++ [k]) .hole) (pre ++ post)
end
section
variable {X : Cx} {T : List Nat} {W : WV} {fp1 : M (Nat × List Nat)} {pos pos' p : Pos}
end
end VL

end

section
set_option Elab.async false
set_option linter.all false
set_option maxRecDepth 100000
set_option maxHeartbeats 1000000
namespace VL
open PySem PySem.Spec PyProof.Rows L2
section
variable {X : Cx} {T : List Nat} {W : WV} {fs : M (List Rv)} {pos : Pos}
noncomputable def sPar (i j : Nat) (fs : M (List Rv)) : MS := sE fs fun rs => fun ρ => match rs with
  | [.d a, .d b] => (match setSl ρ i (.val a) with
    | some ρ1 => (setSl ρ1 j (.val b)).map .nx
    | none => none)
  | _ => none
end
end VL

end

section
set_option Elab.async false
set_option linter.all false
set_option maxRecDepth 100000
namespace SM
open PySem PySem.Spec PyProof.Rows L2 VL
noncomputable def s_count : Str := ⟨#[99, 111, 117, 110, 116]⟩
noncomputable def s_side : Str := ⟨#[115, 105, 100, 101]⟩
noncomputable def s_price : Str := ⟨#[112, 114, 105, 99, 101]⟩
noncomputable def s_left : Str := ⟨#[108, 101, 102, 116]⟩
noncomputable def s_done : Str := ⟨#[100, 111, 110, 101]⟩
noncomputable def s_void : Str := ⟨#[118, 111, 105, 100]⟩
noncomputable def s_Hall : Str := ⟨#[72, 97, 108, 108]⟩
noncomputable def s_past : Str := ⟨#[112, 97, 115, 116]⟩
noncomputable def s_dealt : Str := ⟨#[100, 101, 97, 108, 116]⟩
noncomputable def s_put_up : Str := ⟨#[112, 117, 116, 95, 117, 112]⟩
noncomputable def s_made : Str := ⟨#[109, 97, 100, 101]⟩
noncomputable def s_held : Str := ⟨#[104, 101, 108, 100]⟩
noncomputable def s_offered : Str := ⟨#[111, 102, 102, 101, 114, 101, 100]⟩
noncomputable def s_opened : Str := ⟨#[111, 112, 101, 110, 101, 100]⟩
noncomputable def s_moment : Str := ⟨#[109, 111, 109, 101, 110, 116]⟩
noncomputable def s_start : Str := ⟨#[115, 116, 97, 114, 116]⟩
noncomputable def s_size : Str := ⟨#[115, 105, 122, 101]⟩
noncomputable def s_two : Str := ⟨#[116, 119, 111]⟩
noncomputable def s_cards : Str := ⟨#[99, 97, 114, 100, 115]⟩
noncomputable def s_word : Str := ⟨#[119, 111, 114, 100]⟩
noncomputable def s_need_bargain : Str := ⟨#[110, 101, 101, 100, 95, 98, 97, 114, 103, 97, 105, 110]⟩
noncomputable def s_need_member : Str := ⟨#[110, 101, 101, 100, 95, 109, 101, 109, 98, 101, 114]⟩
noncomputable def s_signs : Str := ⟨#[115, 105, 103, 110, 115]⟩
noncomputable def s_pass : Str := ⟨#[112, 97, 115, 115]⟩
noncomputable def s_settle : Str := ⟨#[115, 101, 116, 116, 108, 101]⟩
noncomputable def s_consent : Str := ⟨#[99, 111, 110, 115, 101, 110, 116]⟩
noncomputable def s_lower : Str := ⟨#[108, 111, 119, 101, 114]⟩
noncomputable def s_take : Str := ⟨#[116, 97, 107, 101]⟩
noncomputable def s_hold : Str := ⟨#[104, 111, 108, 100]⟩
noncomputable def s_close : Str := ⟨#[99, 108, 111, 115, 101]⟩
noncomputable def s_consents : Str := ⟨#[99, 111, 110, 115, 101, 110, 116, 115]⟩
noncomputable def s_called : Str := ⟨#[99, 97, 108, 108, 101, 100]⟩
noncomputable def s_back : Str := ⟨#[98, 97, 99, 107]⟩
noncomputable def s_x20 : Str := ⟨#[32]⟩
theorem e_x20 : (" " : Str) = s_x20 := by decide +kernel
noncomputable def s_0 : Str := ⟨#[48]⟩
theorem e_0 : ("0" : Str) = s_0 := by decide +kernel
noncomputable def s_0123456789 : Str := ⟨#[48, 49, 50, 51, 52, 53, 54, 55, 56, 57]⟩
theorem e_0123456789 : ("0123456789" : Str) = s_0123456789 := by decide +kernel
noncomputable def s_b : Str := ⟨#[98]⟩
theorem e_b : ("b" : Str) = s_b := by decide +kernel
noncomputable def s_s : Str := ⟨#[115]⟩
theorem e_s : ("s" : Str) = s_s := by decide +kernel
noncomputable def tb_OTHERS : List (Str × PyData) := [(sIn, (.str sOut)), (sOut, (.str sIn)), (sChin, (.str sBrow)), (sBrow, (.str sChin))]
noncomputable def g_is_whole : MS := (sRet (nDat (cAndV (cIsi .int (cVar 0)) (cNotV (cIsi .bool (cVar 0))))))
noncomputable def F_is_whole : Fn := runF 1 g_is_whole
noncomputable def g__law_whole : MS := (sRet (nDat (cAndV (cIsi .int (cVar 0)) (cNotV (cIsi .bool (cVar 0))))))
noncomputable def F__law_whole : Fn := runF 1 g__law_whole
noncomputable def g_is_within : MS := (sRet (nDat (cAndV (cFrz (nCall [0] 1 F_is_whole (aCons (cVar 0) aNil))) (cOf (cChain leD leD (cVar 1) (cVar 0) (cVar 2))))))
noncomputable def F_is_within : Fn := runF 3 g_is_within
noncomputable def g_is_showing : MS := (sSeq (sIf (cOr (cNot (cTest (cIsi .tuple (cVar 0)))) (cOr (cCmp neD (cCall lenD (aCons (cVar 0) aNil)) (cD (.int 2))) (cNot (cTest (cFrz (nCall [] 3 F_is_within (aCons (cBin subD (cVar 0) (cD (.int 0))) (aCons (cD (.int 1)) (aCons (cD (.int 9)) aNil))))))))) (sRet (nDat (cD (.bool false)))) sNil)
  (sRet (nDat (cAndV (cIsi .str (cBin subD (cVar 0) (cD (.int 1)))) (cOf (cCmp inD (cBin subD (cVar 0) (cD (.int 1))) (cD (.tuple [(.str sChin), (.str sBrow)]))))))))
noncomputable def F_is_showing : Fn := runF 1 g_is_showing
noncomputable def g_is_sign : MS := (sSeq (sIf (cOr (cNot (cTest (cIsi .tuple (cVar 0)))) (cOr (cCmp neD (cCall lenD (aCons (cVar 0) aNil)) (cD (.int 4))) (cNot (cTest (cFrz (nCall [] 1 F_is_showing (aCons (cCut (cVar 0) (oSome (cD (.int 2))) oNone) aNil))))))) (sRet (nDat (cD (.bool false)))) sNil)
  (sRet (nDat (cAndV (cIsi .str (cBin subD (cVar 0) (cD (.int 0)))) (cAndV (cOf (cCmp inD (cBin subD (cVar 0) (cD (.int 0))) (cD (.tuple [(.str sIn), (.str sOut)])))) (cFrz (nCall [] 3 F_is_within (aCons (cBin subD (cVar 0) (cD (.int 1))) (aCons (cD (.int 0)) (aCons (cD (.int 9)) aNil))))))))))
noncomputable def F_is_sign : Fn := runF 1 g_is_sign
noncomputable def g_lots_of : MS := (sSeq (sAsg (gT 2 (gsC (gN 1) (gsC (gN 2) gsN))) (cCut (cVar 0) (oSome (cNeg (cD (.int 2)))) oNone))
  (sSeq (sIf (cCmp eqD (cVar 2) (cD (.str sBrow))) (sRet (nDat (cBin mulD (cD (.int 10)) (cVar 1)))) sNil)
  (sRetV 1)))
noncomputable def F_lots_of : Fn := runF 3 g_lots_of
noncomputable def g_other_part : MS := (sSeq (sIf (cTest (cIsi .str (cVar 0))) (sRet (nDat (cTab tb_OTHERS (cVar 0)))) sNil)
  (sSeq (sIf (cCmp eqD (cBin modD (cVar 0) (cD (.int 5))) (cD (.int 0))) (sRet (nDat (cD .none))) sNil)
  (sRet (nDat (cBin modD (cBin addD (cVar 0) (cD (.int 5))) (cD (.int 10)))))))
noncomputable def F_other_part : Fn := runF 1 g_other_part
noncomputable def g__law_lots : MS := (sRet (nDat (cBin mulD (cBin subD (cVar 0) (cNeg (cD (.int 2)))) (cBin subD (cFrz (nLst (aCons (cD (.int 1)) (aCons (cD (.int 10)) aNil)))) (cCall intD (aCons (cOf (cCmp eqD (cBin subD (cVar 0) (cNeg (cD (.int 1)))) (cD (.str sBrow)))) aNil))))))
noncomputable def F__law_lots : Fn := runF 1 g__law_lots
noncomputable def b_alikes_0 : MS := (sSeq (sSet 4 (cFrz (nCall [3] 1 F_other_part (aCons (cVar 3) aNil))))
  (sIf (cCmp notND (cVar 4) (cD .none)) (sApp [] (pVar 1) (nDat (cBin addD (cBin addD (cCut (cVar 0) oNone (oSome (cVar 2))) (cTup (aCons (cVar 4) aNil))) (cCut (cVar 0) (oSome (cBin addD (cVar 2) (cD (.int 1)))) oNone)))) sNil))
noncomputable def g_alikes : MS := (sSeq (sSetN 1 (nLst aNil))
  (sSeq (sFor (iEnumD (aCons (cVar 0) aNil)) (gT 2 (gsC (gN 2) (gsC (gN 3) gsN))) b_alikes_0)
  (sRetV 1)))
noncomputable def F_alikes : Fn := runF 5 g_alikes
noncomputable def g__law_is_card : MS := (sSeq (sIf (cOr (cNot (cTest (cIsi .tuple (cVar 0)))) (cCmp neD (cCall lenD (aCons (cVar 0) aNil)) (cD (.int 6)))) (sRet (nDat (cD (.bool false)))) sNil)
  (sSeq (sIf (cOr (cCmp neD (cFrz (nComp (iSeq (cBin addD (cCut (cVar 0) oNone (oSome (cD (.int 2)))) (cCut (cVar 0) (oSome (cD (.int 3))) oNone))) [1] (gN 1) (cNot (cTest (cFrz (nCall [1] 1 F__law_whole (aCons (cVar 1) aNil))))) (cVar 1))) (cFrz (nLst aNil))) (cNot (cTest (cIsi .str (cBin subD (cVar 0) (cD (.int 2))))))) (sRet (nDat (cD (.bool false)))) sNil)
  (sSeq (sAsg (gT 6 (gsC (gN 2) (gsC (gN 3) (gsC (gN 4) (gsC (gN 5) (gsC (gN 6) (gsC (gN 7) gsN))))))) (cVar 0))
  (sSeq (sIf (cOr (cNot (cChain leD leD (cD (.int 0)) (cVar 2) (cD (.int 11)))) (cOr (cNot (cChain leD leD (cD (.int 0)) (cVar 3) (cD (.int 11)))) (cOr (cCmp eqD (cVar 2) (cVar 3)) (cCmp notInD (cVar 4) (cFrz (nLst (aCons (cD (.str sBought)) (aCons (cD (.str sSold)) aNil)))))))) (sRet (nDat (cD (.bool false)))) sNil)
  (sRet (nDat (cAndV (cOf (cChain leD leD (cD (.int 0)) (cVar 5) (cBin powD (cD (.int 10)) (cD (.int 9))))) (cAndV (cOf (cChain leD leD (cD (.int 1)) (cVar 6) (cBin powD (cD (.int 10)) (cD (.int 6))))) (cOf (cChain leD leD (cD (.int 0)) (cVar 7) (cBin powD (cD (.int 10)) (cD (.int 9)))))))))))))
noncomputable def F__law_is_card : Fn := runF 8 g__law_is_card
noncomputable def b_is_card_0 : MS := (sIf (cNot (cTest (cFrz (nCall [7] 3 F_is_within (aCons (cVar 7) (aCons (cD (.int 0)) (aCons (cBin subtD (cD (.int (12))) (cD (.int 1))) aNil))))))) (sRet (nDat (cD (.bool false)))) sNil)
noncomputable def g_is_card : MS := (sSeq (sIf (cOr (cNot (cTest (cIsi .tuple (cVar 0)))) (cCmp neD (cCall lenD (aCons (cVar 0) aNil)) (cD (.int 6)))) (sRet (nDat (cD (.bool false)))) sNil)
  (sSeq (sAsg (gT 6 (gsC (gN 1) (gsC (gN 2) (gsC (gN 3) (gsC (gN 4) (gsC (gN 5) (gsC (gN 6) gsN))))))) (cVar 0))
  (sSeq (sFor (iSeq (cTup (aCons (cVar 1) (aCons (cVar 2) aNil)))) (gN 7) b_is_card_0)
  (sSeq (sIf (cOr (cCmp eqD (cVar 1) (cVar 2)) (cOr (cNot (cTest (cIsi .str (cVar 3)))) (cCmp notInD (cVar 3) (cD (.tuple [(.str sBought), (.str sSold)]))))) (sRet (nDat (cD (.bool false)))) sNil)
  (sSeq (sIf (cOr (cNot (cTest (cFrz (nCall [4] 3 F_is_within (aCons (cVar 4) (aCons (cD (.int 0)) (aCons (cD (.int (1000000000))) aNil))))))) (cNot (cTest (cFrz (nCall [5] 3 F_is_within (aCons (cVar 5) (aCons (cD (.int 1)) (aCons (cD (.int (1000000))) aNil)))))))) (sRet (nDat (cD (.bool false)))) sNil)
  (sRet (nCall [6] 3 F_is_within (aCons (cVar 6) (aCons (cD (.int 0)) (aCons (cBin powD (cD (.int 10)) (cD (.int 9))) aNil))))))))))
noncomputable def F_is_card : Fn := runF 8 g_is_card
noncomputable def g_Hall_need_member : MS := (sIf (cOr (cCmp ltD (cVar 1) (cD (.int 0))) (cCmp geD (cVar 1) (cLeaf (pFld s_Hall s_size (pVar 0))))) (sRaise s_NoMember) sNil)
noncomputable def F_Hall_need_member : Fn := runF 2 g_Hall_need_member
noncomputable def g_Hall_need_bargain : MS := (sIf (cOr (cCmp ltD (cVar 1) (cD (.int 0))) (cCmp geD (cVar 1) (cLenP (pFld s_Hall s_made (pVar 0))))) (sRaise s_NoBargain) sNil)
noncomputable def F_Hall_need_bargain : Fn := runF 2 g_Hall_need_bargain
noncomputable def g_Hall_need_theirs : MS := (sSeq (sDrop (cFrz (nMeth s_Hall s_need_member [0, 1] 2 F_Hall_need_member 0 (aCons (cVar 1) aNil))))
  (sSeq (sDrop (cFrz (nMeth s_Hall s_need_bargain [0, 2] 2 F_Hall_need_bargain 0 (aCons (cVar 2) aNil))))
  (sIf (cCmp notInD (cVar 1) (cDGet [] (pIx [] (pFld s_Hall s_made (pVar 0)) (cVar 2)) (cD (.str s_two)))) (sRaise s_NotTheirs) sNil)))
noncomputable def F_Hall_need_theirs : Fn := runF 3 g_Hall_need_theirs
noncomputable def g__law_number : MS := (sSeq (sSet 2 (cFrz (nComp (iSeq (cVar 0)) [3] (gN 3) (cCmp notInD (cVar 3) (cD (.str s_0123456789))) (cVar 3))))
  (sSeq (sIf (cOr (cCmp ltD (cCall lenD (aCons (cVar 0) aNil)) (cD (.int 1))) (cOr (cCmp gtD (cCall lenD (aCons (cVar 0) aNil)) (cVar 1)) (cCmp neD (cVar 2) (cFrz (nLst aNil))))) (sRet (nDat (cD .none))) sNil)
  (sRet (nDat (cIf (cAnd (cCmp eqD (cBin subD (cVar 0) (cD (.int 0))) (cD (.str s_0))) (cCmp neD (cVar 0) (cD (.str s_0)))) (cD .none) (cCall intD (aCons (cVar 0) aNil)))))))
noncomputable def F__law_number : Fn := runF 4 g__law_number
end SM

end

section
set_option Elab.async false
set_option linter.all false
set_option maxRecDepth 100000
set_option maxHeartbeats 1000000
namespace VL
open PySem PySem.Spec PyProof.Rows L2
noncomputable def rEmpD : R2 := fun x y H Q => ∃ a b ks, x = .ref a ∧ y = .ref b ∧ H a = some (.dK ks) ∧ H b = some (.dK []) ∧ Q (.bl ks.isEmpty) H
section
variable {X : Cx} {T T1 T2 : List Nat} {W : WV} {K : Fg} {pos p : Pos} {a b e : Expr} {fp1 : M (Nat × List Nat)} {fn : M Tr}
theorem op_eqD (hu : X.A.units < cLine) : OpR X (compareOp .Eq) rEmpD := by
  intro pins s σ H x y v u Q I rx ry h
  obtain ⟨a, b, ks, rfl, rfl, ea, eb, q⟩ := h
  obtain rfl : v = Value.ref a := rx
  obtain rfl : u = Value.ref b := ry
  obtain ⟨_, ya, va, ra, da⟩ := (show ObjOk X.prog X.w H s.heap a (.dK ks) from I.hok a _ ea)
  obtain ⟨_, yb, vb, rb, db⟩ := (show ObjOk X.prog X.w H s.heap b (.dK []) from I.hok b _ eb)
  have lb : vb.length = 0 := by rw [← rb.length]; rfl
  have la : ks.length = va.length := ra.length
  cases va with
  | nil =>
    have ek : ks = [] := List.eq_nil_of_length_eq_zero (by simpa using la)
    subst ek
    exact PySem.W.keq_eq (knd := mixKind X.prog X.w) (r := true) ya yb da db hu (fun _ => .nil) (fin_bl I q (by simp [lb]))
  | cons c cs =>
    have ek : ks.isEmpty = false := by
      cases ks with
      | nil => simp at la
      | cons _ _ => rfl
    rw [ek] at q
    exact PySem.W.keq_eq (knd := mixKind X.prog X.w) (r := true) ya yb da db hu (fun z => by rw [lb] at z; simp at z) (fin_bl I q (by simp [lb]))
end
end VL

end

section
set_option Elab.async false
set_option linter.all false
set_option maxRecDepth 100000
set_option maxHeartbeats 1000000
namespace VL
open PySem PySem.Spec PyProof.Rows L2
section
variable {X : Cx} {T T1 T2 : List Nat} {W : WV} {K : Fg} {pos : Pos} {fp1 : M (Nat × List Nat)}
end
end VL

end

section
set_option Elab.async false
set_option linter.all false
set_option maxRecDepth 100000
namespace SN
open PySem PySem.Spec PyProof.Rows L2 VL SM SN
end SN

end

section
set_option Elab.async false
set_option linter.all false
set_option maxRecDepth 100000
namespace VL
open PySem PySem.Spec PyProof.Rows L2
section
variable {X : Cx} {T : List Nat} {W : WV} {K : Fg}
noncomputable def boolsD : List PyData → Option (List Bool)
  | [] => some []
  | .bool i :: ds => (boolsD ds).map (i :: ·)
  | _ :: _ => none
theorem bools_ok {F : Hp} : ∀ {vs : List V} {ds : List PyData} {bs : List Bool}, DqAll K F vs ds → boolsD ds = some bs → vs = bs.map V.bl
  | _, _, _, .nil, e => by simp only [boolsD] at e; cases e; rfl
  | _, _, _, .cons (d := d) h t, e => by
    cases d <;> simp only [boolsD] at e <;> try (cases e; done)
    obtain ⟨ms, e1, rfl⟩ := map_some e
    cases h
    rw [bools_ok t e1]
    rfl
noncomputable def allD : List PyData → Option PyData
  | [.list ds] => (boolsD ds).map fun bs => .bool (bs.all id)
  | _ => none
theorem ok_allD : CallOk K (rAll K) allD := by
  intro F H vs ds z Q s h e k
  unfold allD at e
  split at e
  · cases h with
    | cons h t =>
      cases t
      obtain ⟨bs, e1, rfl⟩ := map_some e
      obtain ⟨a, us, rfl, h1, h2⟩ := h.list s
      have := bools_ok h2 e1
      subst this
      exact ⟨a, bs, rfl, .inl h1, k _ F H (.refl s) (.bl _)⟩
  · cases e
end
end VL
namespace VL
open PySem PySem.Spec PyProof.Rows L2
end VL

end

section
set_option Elab.async false
set_option linter.all false
set_option maxRecDepth 100000
namespace VL
open PySem PySem.Spec PyProof.Rows L2
noncomputable def keyN : Value → Option Str
  | .str x _ => some x
  | _ => none
theorem kmiss_of {K : PySem.W.Frag} {w : World} {p : Addr} {es : Array DictEntry} {n : Nat} {ks : List (Option Str)} (hl : K.lookup p = some ⟨.type "dict", none, .dict es n, #[]⟩) (hk : PySem.W.KeysLit w.params es.toList) (low : (p == sysModules) = false)
    (hn : es.toList.map (fun e => keyN e.key) = ks) {z : Str} (hz : some z ∉ ks) : KMiss K w p z := by
  have lit := hk.all
  refine ⟨es, n, hl, hk, low, ?_⟩
  unfold PySem.W.nsIn
  rw [hl]
  have f : es.toList.find? (fun e => e.key.isStr z) = none := by
    rw [List.find?_eq_none]
    intro e he q
    obtain ⟨x, t, ex, _⟩ := lit e he
    have : x = z := by
      rw [ex] at q
      exact eq_of_beq (show (x == z) = true from q)
    subst this
    refine hz ?_
    rw [← hn]
    exact List.mem_map.mpr ⟨e, he, by rw [ex]; rfl⟩
  have r : es.toList.any (fun e => e.refKey) = false := by
    rw [List.any_eq_false]
    intro e he q
    obtain ⟨x, t, ex, _⟩ := lit e he
    unfold DictEntry.refKey at q
    rw [ex] at q
    cases q
  show (match es.toList.find? (fun e => e.key.isStr z) with
    | some e => some (some e.val)
    | none => if es.toList.any (fun e => e.refKey) then none else some none) = _
  rw [f, r]
  rfl
theorem kmiss_tab {K : PySem.W.Frag} {w : World} {p : Addr} {es : Array DictEntry} {n : Nat} {tb : List (Str × PyData)} (hl : K.lookup p = some ⟨.type "dict", none, .dict es n, #[]⟩) (hk : PySem.W.KeysLit w.params es.toList) (low : (p == sysModules) = false)
    (hn : es.toList.map (fun e => keyN e.key) = tb.map fun q => some q.1) : ∀ z, tb.lookup z = none → KMiss K w p z := fun z hz => kmiss_of hl hk low hn fun h => by
  obtain ⟨q, hq, e⟩ := List.mem_map.mp h
  cases e
  have := List.lookup_eq_none_iff.mp hz q hq
  simp at this
section
variable {X : Cx} {T1 T2 : List Nat} {W : WV}
noncomputable def rKGet (K : Fg) (w : World) : V → List V → Hp → VK → Prop := fun x xs H Q => ∃ (p : Addr) (z : Str) (d : V), x = .ref p ∧ xs = [.str z, d] ∧ (p == sysModules) = false ∧ ((∃ v, KDct K w p z v ∧ Q v H) ∨ (KMiss K w p z ∧ Q d H))
theorem mt_kget : MtR X "dict.get" (rKGet X.K X.w) := by
  intro pins s σ H x xs v us Q I rx rxs h
  obtain ⟨p, z, d, rfl, rfl, low, q⟩ := h
  obtain rfl : v = Value.ref p := rx
  cases rxs with
  | cons r1 r2 =>
  cases r2 with
  | cons r2 r3 =>
  cases r3
  obtain ⟨t, rfl⟩ := r1
  rcases q with ⟨v0, ⟨es, n, u, hl, hk, e, ru⟩, q⟩ | ⟨⟨es, n, hl, hk, _, hm⟩, q⟩
  · have hm' := PySem.W.mapOf_K (prog := X.prog) (w := X.w) I.kIn hl hk
    refine call_meetsIn PySem.F.slot_dict_get hm'.typeIs PySem.F.entry_dict_get (PySem.F.args_dict_get_3 _ _ _) (meets_dict_get_default (strKind X.prog X.w) p (strKind_is X.prog X.w z t) low _) ⟨_, hm', ?_⟩
    have f := PySem.W.find_K hl e
    show EP X pins σ Q (((PySem.findBy Value.isStrOf es z)).getD _) _
    rw [f]
    exact ⟨v0, H, I.tok _, ru, q⟩
  · have hm' := PySem.W.mapOf_K (prog := X.prog) (w := X.w) I.kIn hl hk
    refine call_meetsIn PySem.F.slot_dict_get hm'.typeIs PySem.F.entry_dict_get (PySem.F.args_dict_get_3 _ _ _) (meets_dict_get_default (strKind X.prog X.w) p (strKind_is X.prog X.w z t) low _) ⟨_, hm', ?_⟩
    have f := PySem.W.find_K hl hm
    show EP X pins σ Q (((PySem.findBy Value.isStrOf es z)).getD _) _
    rw [f]
    exact ⟨d, H, I.tok _, r2, q⟩
noncomputable def tabG (tb : List (Str × PyData)) (rs : List Rv) : M Rv := fun ρ => match rs with
  | [.d (.str z), .d e] => some (.ok (.d ((tb.lookup z).getD e)) ρ)
  | _ => none
noncomputable def cTabG (tb : List (Str × PyData)) (f : M (List Rv)) : M Rv := bnd f (tabG tb)
theorem pe_kget {x : Str} {p : Addr} {px apos cpos : Pos} {ek ex : Expr} {t : TA} (hg : Gl X x) (hm : X.mg x = some (.ref p)) (hl : ∃ es n, X.K.lookup p = some ⟨.type "dict", none, .dict es n, #[]⟩) (ha : PA X [ek, ex] t) (hdb : (x == ("__debug__" : Str)) = false := by decide)
    (hbase : attributeBase (.Name x px) "get" X.env (eval (.Name x px) X.env) = eval (.Name x px) X.env := by rfl)
    (hfew : ((backTo cpos (starEach [ek, ex] X.env)).all (fun x => !x.1) && (backToKw cpos (keywordEach [] X.env)).all (fun x => x.1.isSome) && decide (([ek, ex] : List Expr).length + ([] : List Keyword).length + (if ([] : List Keyword).isEmpty then 0 else 1) < 30)) = true := by rfl)
    (hline : (apos.endLine == cpos.line) = true := by rfl) (hs : starEach [ek, ex] X.env = (false, eval ek X.env) :: starEach [ex] X.env := by rfl) (hplain : (backTo cpos (starEach [ex] X.env)).any (·.1) = false := by rfl) :
    PE X (.Call (.Attribute (.Name x px) "get" apos) [ek, ex] [] cpos) (fun σ H Q => t σ H fun xs H1 => rKGet X.K X.w (.ref p) xs H1 Q) := by
  refine ⟨fun pins s σ H Q I h => ?_⟩
  refine wpAny_Call_method_late hbase hfew hline rfl (thn ((pe_glob (v := .ref p) hg hm rfl hdb).run pins s σ H (fun v H1 => v = .ref p ∧ H1 = H) I ⟨rfl, rfl⟩) fun v s1 ⟨y, H1, I1, r1, ey, eh⟩ => ?_)
  subst ey eh
  obtain rfl : v = Value.ref p := r1
  obtain ⟨es, n, hl⟩ := hl
  have ho := I1.kIn p _ hl
  refine ⟨"dict", "dict.get", PySem.F.plainAttrs_dict, PySem.F.slot_dict_get, PySem.F.type_dict_get, ⟨_, ho, rfl⟩, fun a e => ?_, ?_⟩
  · cases e
    exact ⟨_, ho, rfl⟩
  · have hA := ha.run cpos pins s1 σ H1 _ I1 h
    rw [hs] at hA ⊢
    refine Calls.callWith_builtin (by show (false || (backTo cpos (starEach [ex] X.env)).any (·.1)) = false; rw [hplain] <;> rfl) (Calls.evalArgs_plain ?_)
    exact thn hA fun us s2 ⟨vs, H2, I2, r2, q2⟩ => mt_kget pins s2 σ H2 (.ref p) vs _ us Q I2 rfl r2 q2
theorem ve_tabG {tb : List (Str × PyData)} {x : Str} {p : Addr} {px apos cpos : Pos} {ek ex : Expr} {fs : M (List Rv)} (hg : Gl X x) (hm : X.mg x = some (.ref p)) (hk : ∀ z d, tb.lookup z = some d → ∃ v, KDct X.K X.w p z v ∧ ∀ F, Dq X.K F v d)
    (hz : (∃ es n, X.K.lookup p = some ⟨.type "dict", none, .dict es n, #[]⟩) ∧ (p == sysModules) = false ∧ ∀ z, tb.lookup z = none → KMiss X.K X.w p z) (ha : VA X T2 W [ek, ex] fs) (hdb : (x == ("__debug__" : Str)) = false := by decide)
    (hbase : attributeBase (.Name x px) "get" X.env (eval (.Name x px) X.env) = eval (.Name x px) X.env := by rfl)
    (hfew : ((backTo cpos (starEach [ek, ex] X.env)).all (fun x => !x.1) && (backToKw cpos (keywordEach [] X.env)).all (fun x => x.1.isSome) && decide (([ek, ex] : List Expr).length + ([] : List Keyword).length + (if ([] : List Keyword).isEmpty then 0 else 1) < 30)) = true := by rfl)
    (hline : (apos.endLine == cpos.line) = true := by rfl) (hs : starEach [ek, ex] X.env = (false, eval ek X.env) :: starEach [ex] X.env := by rfl) (hplain : (backTo cpos (starEach [ex] X.env)).any (·.1) = false := by rfl) :
    VE X T2 W (.Call (.Attribute (.Name x px) "get" apos) [ek, ex] [] cpos) (cTabG tb fs) :=
  pe_imp (pe_kget hg hm hz.1 ha hdb hbase hfew hline hs hplain) fun σ H Q ⟨F, ρ, fp, o, E, q, P⟩ => by
    refine tv_bnd E q P (fun i hi => hi) fun rs ρ1 vs H1 F1 fp1 s1 r1 e1 P1 => ?_
    unfold tabG at e1
    split at e1
    · rename_i z e
      cases ok_inj e1
      cases r1 with
      | cons ra rb =>
      cases rb with
      | cons rb rc =>
      cases rc
      cases ra
      refine ⟨p, z, _, rfl, rfl, hz.2.1, ?_⟩
      cases hd : tb.lookup z with
      | some d =>
        obtain ⟨w, h1, h2⟩ := hk z d hd
        rw [hd] at P1
        exact .inl ⟨w, h1, P1 _ H1 F1 fp1 (.refl s1.env) (h2 F1)⟩
      | none =>
        rw [hd] at P1
        exact .inr ⟨hz.2.2 z hd, P1 _ H1 F1 fp1 (.refl s1.env) rb⟩
    · cases e1
end
end VL

end

section
set_option Elab.async false
set_option linter.all false
set_option maxRecDepth 100000
namespace VL
open PySem PySem.Spec PyProof.Rows L2
section
variable {X : Cx} {T : List Nat} {W : WV} {i : Expr} {fi : M Rv} {ty td : TE}
noncomputable def rTab (K : Fg) (w : World) (Q : Bool → Prop) (y : V) (p : Addr) : Prop := ∃ z, y = .str z ∧ (p == sysModules) = false ∧ ((∃ v, KDct K w p z v ∧ Q true) ∨ (KMiss K w p z ∧ Q false))
theorem tab_notIn {pins : List (Addr × Obj)} {σ : Sg} {H : Hp} {s : Shared} {p : Addr} {y : V} {u : Value} {Q : Value → Shared → Prop} (I : L2.Inv X pins σ H s) (ry : L2.RelV y u) (h : rTab X.K X.w (fun b => ∀ s', L2.Inv X pins σ H s' → Q (.bool (!b)) s') y p) :
    wpAny (model X.prog X.w) X.A (compareOp .NotIn u (.ref p)) Q X.xe s := by
  obtain ⟨z, rfl, low, q⟩ := h
  obtain ⟨t, rfl⟩ := ry
  rcases q with ⟨v0, ⟨es, n, u, hl, hk, e, ru⟩, q⟩ | ⟨⟨es, n, hl, hk, _, hm⟩, q⟩
  · have hm' := PySem.W.mapOf_K (prog := X.prog) (w := X.w) I.kIn hl hk
    refine wpAny_notIn_of (strKind_is X.prog X.w z t) low hm' ?_
    have f := PySem.W.find_K hl e
    show Q (.bool (!(PySem.findBy Value.isStrOf es z).isSome)) _
    rw [f]
    exact q _ (I.tok _)
  · have hm' := PySem.W.mapOf_K (prog := X.prog) (w := X.w) I.kIn hl hk
    refine wpAny_notIn_of (strKind_is X.prog X.w z t) low hm' ?_
    have f := PySem.W.find_K hl hm
    show Q (.bool (!(PySem.findBy Value.isStrOf es z).isSome)) _
    rw [f]
    exact q _ (I.tok _)
noncomputable def tabIn (neg : Bool) (tb : List (Str × PyData)) (y : Rv) : M Bool := fun ρ => match y with
  | .d (.str z) => some (.ok (if neg then !(tb.lookup z).isSome else (tb.lookup z).isSome) ρ)
  | _ => none
noncomputable def cTabIn (neg : Bool) (tb : List (Str × PyData)) (f : M Rv) : M Bool := bnd f (tabIn neg tb)
variable {tb : List (Str × PyData)} {x : Str} {p : Addr} {px pos : Pos}
theorem pc_tnin (hi : PE X i ty) (hg : Gl X x) (hm : X.mg x = some (.ref p)) (hdb : (x == ("__debug__" : Str)) = false := by decide) : PC X .NotIn i (.Name x px) (fun σ H Q => ty σ H fun y H1 => rTab X.K X.w (fun b => Q (.bl (!b)) H1) y p) := by
  refine ⟨fun pins s σ H Q I h => ?_⟩
  refine thn (hi.run pins s σ H _ I h) fun iv s1 ⟨y, H1, I1, ry, q1⟩ => thn ((pe_glob (v := .ref p) hg hm rfl hdb).run pins s1 σ H1 (fun v H2 => v = .ref p ∧ H2 = H1) I1 ⟨rfl, rfl⟩) fun u s2 ⟨x', H2, I2, rx, ex, eh⟩ => ?_
  subst ex eh
  obtain rfl : u = Value.ref p := rx
  refine tab_notIn I2 ry ?_
  obtain ⟨z, h1, h2, h3⟩ := q1
  exact ⟨z, h1, h2, h3.imp (fun ⟨v, a, b⟩ => ⟨v, a, fun s3 I3 => ⟨.bl false, _, I3, rfl, b⟩⟩) fun ⟨a, b⟩ => ⟨a, fun s3 I3 => ⟨.bl true, _, I3, rfl, b⟩⟩⟩
theorem vt_tnin (hg : Gl X x) (hm : X.mg x = some (.ref p)) (hk : ∀ z d, tb.lookup z = some d → ∃ v, KDct X.K X.w p z v ∧ ∀ F, Dq X.K F v d)
    (hz : (∃ es n, X.K.lookup p = some ⟨.type "dict", none, .dict es n, #[]⟩) ∧ (p == sysModules) = false ∧ ∀ z, tb.lookup z = none → KMiss X.K X.w p z) (hi : VE X T W i fi) (hdb : (x == ("__debug__" : Str)) = false := by decide) (hb : behindInMarks .NotIn (.Name x px) = false := by rfl) :
    VT X T W (.Compare i [.NotIn] [.Name x px] pos) (cTabIn true tb fi) :=
  pt_imp (pt_cmp (pc_tnin hi hg hm hdb) hb) fun σ H Q ⟨F, ρ, fp, o, E, q, P⟩ => by
    refine tv_bnd E q P (fun j hj => hj) fun y ρ1 v H1 F1 fp1 s1 r1 e1 P1 => ?_
    unfold tabIn at e1
    split at e1
    · rename_i z
      cases ok_inj e1
      have hv : Dq X.K F1 v (.str z) := r1
      cases hv
      refine ⟨z, rfl, hz.2.1, ?_⟩
      cases hd : tb.lookup z with
      | some d =>
        obtain ⟨w, h1, _⟩ := hk z d hd
        rw [hd] at P1
        exact .inl ⟨w, h1, false, rfl, P1 _ H1 F1 fp1 (.refl s1.env) rfl⟩
      | none =>
        rw [hd] at P1
        exact .inr ⟨hz.2.2 z hd, true, rfl, P1 _ H1 F1 fp1 (.refl s1.env) rfl⟩
    · cases e1
end
end VL

end

section
set_option Elab.async false
set_option linter.all false
set_option maxRecDepth 100000
namespace VL
open PySem PySem.Spec PyProof.Rows L2
section
variable {X : Cx} {T T2 : List Nat} {W : WV}
noncomputable def CallAt (X : Cx) (sp : Sp) (f : Addr) : Prop := ∃ k fd ps, FnOk X.prog X.w X.K X.mg X.base (L2N.CX X.prog X.w) k f fd ps sp ∧ Room k X.A ∧ PySem.W.keepIn X.K (.ref f) = true ∧ Binds X.K fd ps []
theorem pe_callAt {fe e : Expr} {es : List Expr} {tf : TE} {t : TA} {pos : Pos} {E : L2.St → L2.XK} (hf : PE X fe tf) (ha : PA X (e :: es) t) (hx : ∀ σ, L2.PassesAt (L2N.CX X.prog X.w) X σ (E σ))
    (hc : eval (.Call fe (e :: es) [] pos) X.env = (do callWith pos (← eval fe X.env) [] (backTo pos (starEach (e :: es) X.env)) (backToKw pos (keywordEach [] X.env))) := by rfl)
    (he : starEach (e :: es) X.env = (false, eval e X.env) :: starEach es X.env := by rfl) (hpl : (backTo pos (starEach es X.env)).any (·.1) = false := by rfl) :
    PE X (.Call fe (e :: es) [] pos) (fun σ H Q => tf σ H fun y H1 => ∃ f sp, y = .ref f ∧ CallAt X sp f ∧ t σ H1 fun vs H2 => sp vs H2 Q (E σ)) := by
  refine ⟨fun pins s σ H Q I h => ?_⟩
  refine Call_ (thn (hf.run pins s σ H _ I h) fun u s1 ⟨y, H1, I1, r1, f, sp, ey, ⟨k, fd, ps, G, hr, hk, hb⟩, q1⟩ => ?_) hc
  subst ey
  obtain rfl : u = Value.ref f := r1
  refine PySem.W.callWith_K (h₀ := X.base) I1.ok.mod.kin hk (thn (ha.run pos pins s1 σ H1 _ I1 q1) fun us s2 ⟨vs, H2, I2, r, q⟩ => ⟨I2.kIn, ?_⟩) he hpl
  exact run_fnS G hr hb (hx σ) I2 r q
variable {m : Nat} {f1 f2 f3 : Addr} {F1' F2' F3' : Fn} {x1 x2 x3 : Str} {p1 p2 p3 p4 pos pos' : Pos} {i e : Expr} {es : List Expr} {fi : M Rv} {fs : M (List Rv)} {Ts : List Nat}
noncomputable def nCallIx (Ts : List Nat) (m : Nat) (Fs : List Fn) (fi : M Rv) (fs : M (List Rv)) : M Tr := bnd fi fun i => fun ρ => match i with
  | .d (.int j) => (match atI Fs j with
    | some F => nCallR Ts m F fs ρ
    | none => none)
  | _ => none
theorem pe_one (h1 : Gl X x1) (m1 : X.mg x1 = some (.ref f1)) (h2 : Gl X x2) (m2 : X.mg x2 = some (.ref f2)) (h3 : Gl X x3) (m3 : X.mg x3 = some (.ref f3)) {ti : TE} (hi : PE X i ti)
    (d1 : (x1 == ("__debug__" : Str)) = false := by decide) (d2 : (x2 == ("__debug__" : Str)) = false := by decide) (d3 : (x3 == ("__debug__" : Str)) = false := by decide)
    (e1 : starEach [.Name x1 p1, .Name x2 p2, .Name x3 p3] X.env = (false, eval (.Name x1 p1) X.env) :: starEach [.Name x2 p2, .Name x3 p3] X.env := by rfl) (e2 : starEach [.Name x2 p2, .Name x3 p3] X.env = (false, eval (.Name x2 p2) X.env) :: starEach [.Name x3 p3] X.env := by rfl)
    (e3 : starEach [.Name x3 p3] X.env = (false, eval (.Name x3 p3) X.env) :: starEach [] X.env := by rfl) (hs : PlainIx i := by intro _ _; rfl) :
    PE X (.Subscript (.List [.Name x1 p1, .Name x2 p2, .Name x3 p3] p4) i pos) (fun σ H Q => ∀ l, H l = none → ti σ (upd H l (.lst [.ref f1, .ref f2, .ref f3])) fun y H1 => rIxL X.K (.ref l) y H1 Q) :=
  pe_imp (pe_ix (ix_list (X := X)) (pe_lst (pa_cons (pe_glob (v := .ref f1) h1 m1 rfl d1) (pa_cons (pe_glob (v := .ref f2) h2 m2 rfl d2) (pa_cons (pe_glob (v := .ref f3) h3 m3 rfl d3) pa_nil e3) e2) e1)) hi hs) fun σ H Q h => by
    show [V.ref f1, V.ref f2, V.ref f3].length ≤ sizeLine ∧ _
    refine ⟨by rw [sizeLine_eq]; show 3 ≤ 16777216; omega, fun l hl => ?_⟩
    exact h l hl
theorem vn_callIx (G1 : CallAt X (spV X.K (WxR X.mg) m F1') f1) (G2 : CallAt X (spV X.K (WxR X.mg) m F2') f2) (G3 : CallAt X (spV X.K (WxR X.mg) m F3') f3) (tk : TakesV X W)
    (h1 : Gl X x1) (m1 : X.mg x1 = some (.ref f1)) (h2 : Gl X x2) (m2 : X.mg x2 = some (.ref f2)) (h3 : Gl X x3) (m3 : X.mg x3 = some (.ref f3)) (hi : VE X T W i fi) (ha : VA X T2 W (e :: es) fs)
    (hc : eval (.Call (.Subscript (.List [.Name x1 p1, .Name x2 p2, .Name x3 p3] p4) i pos) (e :: es) [] pos') X.env = (do callWith pos' (← eval (.Subscript (.List [.Name x1 p1, .Name x2 p2, .Name x3 p3] p4) i pos) X.env) [] (backTo pos' (starEach (e :: es) X.env)) (backToKw pos' (keywordEach [] X.env))) := by rfl)
    (he : starEach (e :: es) X.env = (false, eval e X.env) :: starEach es X.env := by rfl) (hpl : (backTo pos' (starEach es X.env)).any (·.1) = false := by rfl)
    (d1 : (x1 == ("__debug__" : Str)) = false := by decide) (d2 : (x2 == ("__debug__" : Str)) = false := by decide) (d3 : (x3 == ("__debug__" : Str)) = false := by decide)
    (e1 : starEach [.Name x1 p1, .Name x2 p2, .Name x3 p3] X.env = (false, eval (.Name x1 p1) X.env) :: starEach [.Name x2 p2, .Name x3 p3] X.env := by rfl) (e2 : starEach [.Name x2 p2, .Name x3 p3] X.env = (false, eval (.Name x2 p2) X.env) :: starEach [.Name x3 p3] X.env := by rfl)
    (e3 : starEach [.Name x3 p3] X.env = (false, eval (.Name x3 p3) X.env) :: starEach [] X.env := by rfl) (hs : PlainIx i := by intro _ _; rfl) :
    VN X (T ++ (T2 ++ Ts)) W (.Call (.Subscript (.List [.Name x1 p1, .Name x2 p2, .Name x3 p3] p4) i pos) (e :: es) [] pos') (nCallIx Ts m [F1', F2', F3'] fi fs) :=
  pe_imp (pe_callAt (pe_one (p1 := p1) (p2 := p2) (p3 := p3) (p4 := p4) (pos := pos) h1 m1 h2 m2 h3 m3 hi d1 d2 d3 e1 e2 e3 hs) ha (fun σ => L2N.passAt tk σ) hc he hpl) fun σ H Q ⟨F0, ρ, fp, o, E, q, P⟩ => by
    intro l hl
    have g0 := (Grow.lay (F := F0) (.lst [V.ref f1, .ref f2, .ref f3]) E.sub hl).step (T := T ++ (T2 ++ Ts)) E
    refine tv_bnd (T := T) g0.env q (P.step g0 fun _ h => h) (fun j hj => List.mem_append_left _ hj) fun y ρ1 v H1 F1 fp1 s1 r1 q1 P1 => ?_
    split at q1
    · rename_i j
      split at q1
      · rename_i F hF
        have hv : Dq X.K F1 v (.int j) := r1
        cases hv
        have nl : ∀ i, l ∉ fp i := fun i hb => (E.there ⟨i, hb⟩).1 hl
        have hl1 : H1 l = some (.lst [V.ref f1, .ref f2, .ref f3]) := s1.st.frame l _ upd_same (fun ⟨i, hb⟩ => nl i hb) (fun ps z => nomatch z)
        have fin : ∀ {f : Addr}, CallAt X (spV X.K (WxR X.mg) m F) f → atI [V.ref f1, .ref f2, .ref f3] j = some (.ref f) → rIxL X.K (.ref l) (.int j) H1 fun y H2 => ∃ f sp, y = .ref f ∧ CallAt X sp f ∧ tVA X.K T2 W fs σ H2 fun vs H3 => sp vs H3 Q (WE (toWX X.mg W) σ) := fun {f} G hf => by
          refine ⟨l, _, j, _, rfl, rfl, .inl (.inl hl1), hf, f, _, rfl, G, ?_⟩
          refine tv_bnd (T := T2) s1.env q1 P1 (fun j hj => List.mem_append_right _ (List.mem_append_left _ hj)) fun rs ρ2 vs H2 F2 fp2 s2 r2 q2 P2 => ?_
          rw [← List.append_assoc] at P2
          exact callR_sp (T := T ++ T2) s2.env r2 q2 P2
        have e1 : atI [V.ref f1, .ref f2, .ref f3] j = (ixN 3 j).bind fun k => [V.ref f1, .ref f2, .ref f3][k]? := rfl
        have e2 : atI [F1', F2', F3'] j = (ixN 3 j).bind fun k => [F1', F2', F3'][k]? := rfl
        rw [e2] at hF
        cases hk : ixN 3 j with
        | none => rw [hk] at hF; cases hF
        | some k =>
          rw [hk] at hF e1
          match k, hF, e1 with
          | 0, hF, e1 => cases hF; exact fin G1 e1
          | 1, hF, e1 => cases hF; exact fin G2 e1
          | 2, hF, e1 => cases hF; exact fin G3 e1
          | k + 3, hF, _ => simp at hF
      · cases q1
    · cases q1
end
end VL

end

section
set_option Elab.async false
set_option linter.all false
set_option maxRecDepth 100000
set_option maxHeartbeats 1000000
namespace VL
open PySem PySem.Spec PyProof.Rows L2
section
variable {K : Fg} {F H : Hp} {σ : Sg} {ρ : Rho} {fp : FP} {i j : Nat} {r : Nat × List Nat} {ρ1 : Rho} {m : Md} {t : Tr}
structure W2In (K : Fg) (F H : Hp) (σ : Sg) (ρ : Rho) (fp : FP) (i j : Nat) (r : Nat × List Nat) (ρ1 : Rho) (m : Md) (t : Tr) (u : V) (a : Addr) (va vb : V) (pre Ba Bb post : List Addr) (ta tb : Tr) : Prop where
  hi : ρ[r.1]? = some (.own m t)
  hm : modeOk ρ r.1 = true
  ns : r.1 ≠ i ∧ r.1 ≠ j ∧ i ≠ j ∧ i < ρ.length ∧ j < ρ.length
  nn : (∀ m t, ρ[i]? ≠ some (.own m t)) ∧ ∀ m t, ρ[j]? ≠ some (.own m t)
  hu : sg σ r.1 = some u
  hat : t.at r.2 = some (.tup [ta, tb])
  hv : pathV H u r.2 = some (.ref a)
  ha : H a = some (.tup [va, vb])
  hfp : fp r.1 = pre ++ ((a :: (Ba ++ Bb)) ++ post)
  r1 : ρ1 = ((ρ.set r.1 (.own .lock (t.put r.2 (.tup [.hole, .hole])))).set i (.own .pin ta)).set j (.own .pin tb)
  env : EnvOk K F H ((σ.set i (some va)).set j (some vb)) ρ1 (fset (fset (fset fp r.1 (pre ++ (a :: post))) i Ba) j Bb)
  back : ∀ F' H' ta' tb' Ba' Bb', Same F F' → (∀ b, b ∈ pre ++ (a :: post) → H' b = H b ∧ F' b = none) → TrOk K F' H' va ta' Ba' → TrOk K F' H' vb tb' Bb' → TrOk K F' H' u (t.put r.2 (.tup [ta', tb'])) (pre ++ ((a :: (Ba' ++ Bb')) ++ post)) ∧ pathV H' u r.2 = some (.ref a)
  hole : TrOk K F H u (t.put r.2 (.tup [.hole, .hole])) (pre ++ (a :: post))
end
section
variable {X : Cx} {T : List Nat} {W : WV} {fp1 : M (Nat × List Nat)} {pos : Pos}
end
end VL

end

section
set_option Elab.async false
set_option linter.all false
set_option maxRecDepth 100000
set_option maxHeartbeats 1000000
namespace VL
open PySem PySem.Spec PyProof.Rows L2
inductive PAr where
  | v (x : Rv)
  | p (r : Nat × List Nat)
noncomputable def PArOk (K : Fg) (F H : Hp) (σ : Sg) (ρ : Rho) (v : V) : PAr → Prop
  | .v x => RvOk K F σ ρ v x
  | .p r => ∃ u m t t', sg σ r.1 = some u ∧ ρ[r.1]? = some (Sl.own m t) ∧ t.at r.2 = some t' ∧ pathV H u r.2 = some v
inductive PArsOk (K : Fg) (F H : Hp) (σ : Sg) (ρ : Rho) : List V → List PAr → Prop
  | nil : PArsOk K F H σ ρ [] []
  | cons {v vs r rs} : PArOk K F H σ ρ v r → PArsOk K F H σ ρ vs rs → PArsOk K F H σ ρ (v :: vs) (r :: rs)
section
variable {X : Cx} {T T1 T2 T3 : List Nat} {W : WV} {K : Fg} {pos p : Pos} {e : Expr} {es : List Expr} {fp1 : M (Nat × List Nat)} {fa : M Rv} {fs : M (List PAr)}
end
section
variable {K : Fg} {F H F' H' : Hp} {σ σ' : Sg} {ρ ρ3 : Rho} {fp fp3 : FP}
end
noncomputable def PAr.rv (n : Nat) : PAr → Rv
  | .v x => x
  | .p _ => .o n
section
variable {K : Fg} {F H : Hp} {σ : Sg} {ρ ρa : Rho} {fp : FP} {i k : Nat} {q : List Nat} {m : Md} {t : Tr} {u v : V} {pre B post : List Addr} {tk : Tr}
end
section
variable {X : Cx} {T : List Nat} {W : WV} {k m : Nat} {f : Addr} {fd : FuncData} {ps : List Str} {F : Fn} {x : Str} {p pos : Pos} {e : Expr} {es : List Expr} {fs : M (List PAr)} {Ts : List Nat}
end
end VL

end

section
set_option Elab.async false
set_option linter.all false
set_option maxRecDepth 100000
set_option maxHeartbeats 1000000
namespace VL
open PySem PySem.Spec PyProof.Rows L2
section
variable {X : Cx} {T T1 T2 : List Nat} {W : WV} {K : Fg} {e : Expr} {es : List Expr} {fn : M Tr} {fa : M Rv} {fs : M (List Rv × Tr)}
end
section
variable {K : Fg} {F H F1 H1 F' H' : Hp} {σ : Sg} {ρ ρ1 ρ2 : Rho} {fp fp1 fp' : FP} {T Ts : List Nat} {v : V} {t : Tr} {A : List Addr}
end
section
variable {X : Cx} {T : List Nat} {W : WV} {k m : Nat} {f : Addr} {fd : FuncData} {ps : List Str} {F : Fn} {x : Str} {p pos : Pos} {e : Expr} {es : List Expr} {fs : M (List Rv × Tr)} {Ts : List Nat}
end
end VL
namespace VL
open PySem PySem.Spec PyProof.Rows L2
theorem vss_noneM {X : Cx} {W : WV} {st : List Stmt} : VSs X W st (fun _ => none) := ⟨fun pins s σ H D I ⟨F, ρ, fp, o, E, e, P⟩ => by cases e⟩
end VL

end

section
set_option Elab.async false
set_option linter.all false
set_option maxRecDepth 100000
namespace VL
open PySem PySem.Spec PyProof.Rows L2 HT
section
variable {X : Cx} {K : Fg}
end
end VL

end

section
set_option Elab.async false
set_option linter.all false
set_option maxRecDepth 100000
namespace VL
open PySem PySem.Spec PyProof.Rows L2
section
variable {X : Cx} {T T1 T2 : List Nat} {W : WV} {K : Fg}
theorem dqAll_str {F : Hp} : ∀ ys : List Str, DqAll K F (ys.map V.str) (ys.map PyData.str)
  | [] => .nil
  | y :: ys => .cons (.str y) (dqAll_str ys)
variable {o e : Expr} {fo fe : M Rv} {apos pos : Pos}
noncomputable def split1 (a : Str) (y : Rv) : M Rv := fun ρ => match y with
  | .d (.str b) => if b.length ≠ 0 ∧ a.length + 2 ≤ sizeLine then some (.ok (.d (.list ((Txt.split a b).map .str))) ρ) else none
  | _ => none
noncomputable def cSplit (fo fe : M Rv) : M Rv := bnd fo fun x => match x with
  | .d (.str a) => bnd fe (split1 a)
  | _ => fun _ => none
theorem ve_split (ho : VE X T1 W o fo) (he : VE X T2 W e fe) (hs : starEach [e] X.env = [(false, eval e X.env)] := by rfl) (hbase : attributeBase o "split" X.env (eval o X.env) = eval o X.env := by rfl) (hline : (apos.endLine == pos.line) = true := by rfl) :
    VE X (T1 ++ T2) W (.Call (.Attribute o "split" apos) [e] [] pos) (cSplit fo fe) :=
  pe_imp (pe_split ho he hs hbase hline) fun σ H Q ⟨F, ρ, fp, ou, E, q, P⟩ => by
    refine tv_bnd E q P (fun i hi => List.mem_append_left _ hi) fun x ρ1 v H1 F1 fp1 s1 r1 e1 P1 => ?_
    split at e1
    · rename_i a
      have hv : Dq X.K F1 v (.str a) := r1
      cases hv
      refine ⟨⟨a, rfl⟩, ?_⟩
      refine tv_bnd s1.env e1 P1 (fun i hi => List.mem_append_right _ hi) fun y ρ2 w H2 F2 fp2 s2 r2 e2 P2 => ?_
      unfold split1 at e2
      split at e2
      · rename_i b
        split at e2
        · rename_i hb
          cases ok_inj e2
          have hw : Dq X.K F2 w (.str b) := r2
          cases hw
          exact ⟨a, b, rfl, rfl, by simpa using hb.1, hb.2, fun p hp => P2 _ _ _ fp2 ((Grow.new _ s2.env.sub hp).step s2.env) (.lst (.inl upd_same) (dqAll_str _))⟩
        · cases e2
      · cases e2
    · cases e1
noncomputable def strD : List PyData → Option PyData
  | [.int i] => if i.natAbs.log2 < 1920 then some (.str (toString i)) else none
  | [.str a] => some (.str a)
  | _ => none
noncomputable def rStrA : List V → Hp → VK → Prop := fun xs H Q => (∃ i, xs = [.int i] ∧ i.natAbs.log2 < 1920 ∧ Q (.str (toString i)) H) ∨ (∃ a, xs = [.str a] ∧ Q (.str a) H)
theorem cr_strA : CallR X (.type "str") rStrA := .or call_str_int SkE.call_str_str
theorem ok_strD : CallOk K rStrA strD := by
  intro F H vs ds z Q s h e k
  unfold strD at e
  split at e
  · split at e
    · rename_i hi
      cases h with
      | cons h t =>
        cases t
        cases e
        cases h.int
        exact .inl ⟨_, rfl, hi, k _ F H (.refl s) (.str _)⟩
    · cases e
  · cases h with
    | cons h t =>
      cases t
      cases e
      cases h.str
      exact .inr ⟨_, rfl, k _ F H (.refl s) (.str _)⟩
  · cases e
noncomputable def intTD : List PyData → Option PyData
  | [.int i] => some (.int i)
  | [.bool b] => some (.int (if b then 1 else 0))
  | [.str a] => if a.length ≤ 640 then (PySem.intText? a).map .int else none
  | _ => none
noncomputable def rIntT : List V → Hp → VK → Prop := fun xs H Q => ((∃ i, xs = [.int i] ∧ Q (.int i) H) ∨ ∃ k, xs = [.bl k] ∧ Q (.int (if k then 1 else 0)) H) ∨ (∃ a n, xs = [.str a] ∧ PySem.intText? a = some n ∧ a.length ≤ 640 ∧ Q (.int n) H)
theorem cr_intT : CallR X (.type "int") rIntT := .or call_int1 call_int_str
theorem ok_intTD : CallOk K rIntT intTD := by
  intro F H vs ds z Q s h e k
  unfold intTD at e
  split at e
  · cases h with
    | cons h t =>
      cases t
      cases e
      cases h.int
      exact .inl (.inl ⟨_, rfl, k _ F H (.refl s) (.int _)⟩)
  · cases h with
    | cons h t =>
      cases t
      cases e
      cases h.bl
      exact .inl (.inr ⟨_, rfl, k _ F H (.refl s) (.int _)⟩)
  · split at e
    · rename_i hl
      cases h with
      | cons h t =>
        cases t
        cases h.str
        obtain ⟨n, hn, rfl⟩ := map_some e
        exact .inr ⟨_, n, rfl, hn, hl, k _ F H (.refl s) (.int _)⟩
    · cases e
  · cases e
noncomputable def signsD (z : Str) : List PyData := z.cps.toList.map fun c => .str ⟨#[c]⟩
noncomputable def iSeqT (f : M Rv) : M (List PyData) := bnd f fun x => fun ρ => match x with
  | .d (.str z) => some (.ok (signsD z) ρ)
  | _ => none
theorem vi_seqT {tg : Expr} {fa : M Rv} (he : VE X T W e fa) : VI X T W tg e (iSeqT fa) := by
  refine ⟨_, pi_str he, fun σ H R F ρ fp o E q P => ?_⟩
  unfold iSeqT bnd at q
  cases hf : fa ρ with
  | none => rw [hf] at q; cases q
  | some r =>
    rw [hf] at q
    cases r with
    | ex c ρ1 => cases q; exact ⟨F, ρ, fp, _, E, hf, fun H1 F1 fp1 s1 => P H1 F1 fp1 s1⟩
    | ok x ρ1 =>
      simp only at q
      split at q
      · rename_i z
        cases q
        refine ⟨F, ρ, fp, _, E, hf, fun v H1 F1 fp1 s1 r1 => ?_⟩
        have hv : Dq X.K F1 v (.str z) := r1
        cases hv
        have w0 := walk_str (z := z)
        have hn : z.cps.size = (signsD z).length := by unfold signsD; simp
        rw [hn] at w0
        refine ⟨z, rfl, P _ _ _ H1 F1 fp1 s1 w0 (fun F2 H2 a b => trivial) fun i F2 H2 x H3 hi a b y => ?_⟩
        obtain ⟨rfl, c, hc, rfl⟩ := y
        refine ⟨F2, .str ⟨#[c]⟩, ?_, .refl b, .str _⟩
        unfold signsD
        rw [List.getElem?_map, Array.getElem?_toList, hc]
        rfl
      · cases q
end
end VL

end

section
set_option Elab.async false
set_option linter.all false
set_option maxRecDepth 100000
namespace VLS
open PySem PySem.Spec PyProof.Rows L2
section
variable {P : Program} {w : World} {A : Around} {E : Value → Shared → Prop} {s : Shared}
end
end VLS
namespace VL
open PySem PySem.Spec PyProof.Rows L2
section
variable {P : Program} {w : World} {A : Around} {E : Value → Shared → Prop} {s : Shared}
end
section
variable {X : Cx} {T T1 T2 : List Nat} {W : WV} {K : Fg} {pos : Pos}
end
end VL

end

section
set_option Elab.async false
set_option linter.all false
set_option maxRecDepth 100000
namespace VLK
open PySem PySem.Spec PyProof.Rows L2
section
variable {P : Program} {w : World} {A : Around} {E : Value → Shared → Prop} {s : Shared}
noncomputable abbrev TupK (P : Program) (w : World) (h : Heap) (k : List L2.Key) (b : Addr) : Prop := IsTupleKey (mixKind P w) h k b
noncomputable abbrev hashK (P : Program) (w : World) (k : List L2.Key) : Int := tupleKeyHash (mixKind P w) k
noncomputable abbrev Rw := Addr × List L2.Key
noncomputable def ent (P : Program) (w : World) (p : Rw) : Int × Value := (hashK P w p.2, Value.ref p.1)
structure SetK (P : Program) (w : World) (h : Heap) (a : Addr) (L : List Rw) (es : Array (Int × Value)) (ep : Nat) (t : SetTable) : Prop where
  ob : ∃ o, h.get? a = some o ∧ o.ExactSet ∧ o.data = .set es ep t
  rows : es.toList = L.map (ent P w)
  tab : TabOk t (L.map fun p => hashK P w p.2)
  tup : ∀ p ∈ L, TupK P w h p.2 p.1
  led : w.params.followText "set-order" = true ∨ t.led = true
  room : L.length * 5 < t.mask * 3
variable {a : Addr} {L : List Rw} {es : Array (Int × Value)} {ep : Nat} {t : SetTable}
end
end VLK

end

section
set_option Elab.async false
set_option linter.all false
set_option maxRecDepth 100000
namespace VLK
open PySem PySem.Spec PyProof.Rows L2
section
variable {P : Program} {w : World} {A : Around} {E : Value → Shared → Prop} {s : Shared}
end
end VLK

end

section
set_option Elab.async false
set_option linter.all false
set_option maxRecDepth 100000
namespace VLK
open PySem PySem.Spec PyProof.Rows L2
section
variable {P : Program} {w : World} {A : Around} {E : Value → Shared → Prop} {s : Shared}
end
end VLK

end

section
set_option Elab.async false
set_option linter.all false
set_option maxRecDepth 100000
namespace VLK
open PySem PySem.Spec PyProof.Rows L2
section
variable {X : Cx}
end
end VLK
namespace VL
open PySem PySem.Spec PyProof.Rows L2
section
variable {X : Cx} {T : List Nat} {W : WV} {K : Fg}
end
end VL

end

section
set_option Elab.async false
set_option linter.all false
set_option maxRecDepth 100000
namespace VLS
open PySem PySem.Spec PyProof.Rows L2
section
variable {P : Program} {w : World} {A : Around} {E : Value → Shared → Prop} {s : Shared}
end
end VLS
namespace VL
open PySem PySem.Spec PyProof.Rows L2
section
variable {X : Cx} {K : Fg}
variable {T : List Nat} {W : WV} {e e2 : Expr} {fs : M (List Rv)} {p pos : Pos}
end
end VL

end

section
set_option Elab.async false
set_option linter.all false
set_option maxRecDepth 100000
namespace VL
open PySem PySem.Spec PyProof.Rows L2 HT
section
variable {X : Cx} {T : List Nat} {W : WV} {a : Expr} {fa : M Rv} {pos p2 p3 p4 : Pos}
end
end VL

end

section
set_option Elab.async false
set_option linter.all false
set_option maxRecDepth 100000
set_option maxHeartbeats 1000000
namespace RX
open PySem RZ
open PySem.Sem (wp)
noncomputable def Kp (S : List Addr) (h h' : Heap) : Prop := ∀ c ∈ S, ∀ o, h.get? c = some o → h'.get? c = some o
structure Nx (P : Program) (w : World) (it : Addr) (S : List Addr) (Now Nxt : Heap → Prop) (v : Value) : Prop where
  now : ∀ {h h'}, Kp S h h' → Now h → Now h'
  nxt : ∀ {h h'}, Kp S h h' → Nxt h → Nxt h'
  run : ∀ {A : Around} {E : Value → Shared → Prop} {s : Shared} {Q : Value → Shared → Prop}, Now s.heap → (∀ h', Nxt h' → Heap.SameBut it s.heap h' → Q v { s with heap := h' }) → wpAny (model P w) A (Builtin.SmallTypes.nextOf (.ref it)) Q E s
structure Sp (P : Program) (w : World) (it : Addr) (S : List Addr) (Now : Heap → Prop) : Prop where
  now : ∀ {h h'}, Kp S h h' → Now h → Now h'
  run : ∀ {A : Around} {E : Value → Shared → Prop} {s : Shared} {Q : Value → Shared → Prop}, A.handled = none → Now s.heap → (∀ h' e, Heap.ExtBut it s.heap h' → (∃ o, h'.get? e = some o ∧ o.cls = .type "StopIteration") → E (.ref e) { s with heap := h' }) → wpAny (model P w) A (Builtin.SmallTypes.nextOf (.ref it)) Q E s
structure Ap (z TI TO i1 i2 : Addr) (S1 S2 : List Addr) : Prop where
  z1 : z ∉ S1
  z2 : z ∉ S2
  o1 : TO ∉ S1
  o2 : TO ∉ S2
  i21 : i2 ∉ S1
  i12 : i1 ∉ S2
  m1 : i1 ∈ S1
  m2 : i2 ∈ S2
  oz : TO ≠ z
  tz : TI ≠ z
  to : TI ≠ TO
  t1 : TI ≠ i1
  t2 : TI ≠ i2
section
variable {P : Program} {w : World} {A : Around} {E : Value → Shared → Prop} {s : Shared} {z TI TO i1 i2 : Addr} {S1 S2 : List Addr} {N1 M1 N2 M2 : Heap → Prop} {x y a b : Value}
end
section
variable {P : Program} {w : World} {it l : Addr} {xs : Array Value} {k : Nat} {v : Value}
end
section
variable {prog : Program} {w : World} {A : Around} {E : Value → Shared → Prop} {s : Shared}
variable {z TI TO i1 i2 : Addr} {S1 S2 : List Addr} {N1 M1 N2 M2 : Heap → Prop} {x y a b : Value}
end
open PyProof.Rows L2
end RX
namespace VL
open PySem PySem.Spec PyProof.Rows L2
section
variable {X : Cx} {T : List Nat} {W : WV} {pos : Pos}
end
end VL

end

section
set_option Elab.async false
set_option linter.all false
set_option maxRecDepth 100000
set_option maxHeartbeats 1000000
namespace RT
open PySem RZ RX
open PySem.Sem (wp)
structure Nt (P : Program) (w : World) (it : Addr) (S : List Addr) (Now Nxt : Heap → Prop) (V : Value → Prop) : Prop where
  now : ∀ {h h'}, Kp S h h' → Now h → Now h'
  nxt : ∀ {h h'}, Kp S h h' → Nxt h → Nxt h'
  run : ∀ {A : Around} {E : Value → Shared → Prop} {s : Shared} {Q : Value → Shared → Prop}, Now s.heap → (∀ h' tk v, V v → Nxt h' → Heap.SameBut it s.heap h' → Q v { s with heap := h', toks := tk }) → wpAny (model P w) A (Builtin.SmallTypes.nextOf (.ref it)) Q E s
section
variable {P : Program} {w : World} {A : Around} {E : Value → Shared → Prop} {s : Shared} {z TI TO i1 i2 : Addr} {S1 S2 : List Addr} {N1 M1 N2 M2 : Heap → Prop} {V1 V2 : Value → Prop} {a b : Value}
end
section
variable {P : Program} {w : World} {it l : Addr} {xs : Array Value} {k : Nat} {v : Value} {tx : Str} {tt : Tok} {c : Nat}
end
section
variable {prog : Program} {w : World} {A : Around} {E : Value → Shared → Prop} {s : Shared}
variable {z TI TO i1 i2 : Addr} {S1 S2 : List Addr} {N1 M1 N2 M2 : Heap → Prop} {V1 V2 : Value → Prop} {a b : Value}
end
open PyProof.Rows L2
end RT
namespace VL
open PySem PySem.Spec PyProof.Rows L2
section
variable {X : Cx} {T : List Nat} {W : WV} {pos : Pos}
end
end VL

end

section
set_option Elab.async false
set_option linter.all false
set_option maxRecDepth 100000
namespace VL
open PySem PySem.Spec PyProof.Rows L2
section
variable {X : Cx} {pos : Pos}
noncomputable def gL (n : Nat) (Gs : MGs) : MG := fun d ρ => match d with
  | .list ds => if ds.length = n then Gs ds ρ else none
  | _ => none
theorem vg_unl {es : List Expr} {k n : Nat} {vs : List Nat} {gs : TGs} {Gs : MGs} (hc : X.calm = true) (h : VGs X es gs vs Gs) (hn : (assignEach es X.env).length = n := by rfl) (hst : (assignEach es X.env).findIdx? (·.1) = none := by rfl) : VG X (.Tuple es k pos) (gUnl X.K n gs) vs (gL n Gs) := by
  obtain ⟨p1, q1⟩ := h
  refine ⟨pg_unl hc p1 hn hst, fun v σ H Q F ρ fp d ρ' E hd e k => ?_⟩
  unfold gL at e
  split at e
  · split at e
    · rename_i hl
      cases hd with
      | lst hs ha => exact ⟨_, _, rfl, .inl (rd_mono E.sub hs), by rw [dqAll_len ha]; exact hl, q1 _ σ H Q F ρ fp _ ρ' E ha e k⟩
    · cases e
  · cases e
end
end VL

end

section
set_option Elab.async false
set_option linter.all false
set_option maxRecDepth 100000
namespace VL
open PySem PySem.Spec PyProof.Rows L2 HT
section
variable {P : Program} {w : World} {A : Around} {E : Value → Shared → Prop} {s : Shared}
theorem next_item {it : Addr} {x : Str} {t : Tok} {i c : Nat} {Q : Option Value → Shared → Prop} (hit : s.heap.IsStrIter it (strIterType x) x t i) (hx : x.cps[i]? = some c)
    (hQ : ∀ h', h'.IsStrIter it (strIterType x) x t (i + 1) → Heap.SameBut it s.heap h' → Q (some (.str ⟨#[c]⟩ s.toks)) { s with heap := h', toks := s.toks + 1 }) :
    wpAny (model P w) A (pyNext (.ref it)) Q E s := by
  unfold strIterType at hit hQ
  by_cases h : (x.cps.all (· < 128)) = true
  · rw [if_pos h] at hit hQ
    exact wpAny_pyNext_ascii_item hit hx hQ
  · rw [if_neg h] at hit hQ
    exact wpAny_pyNext_wide_item hit hx hQ
theorem next_end {it : Addr} {x : Str} {t : Tok} {i : Nat} {Q : Option Value → Shared → Prop} (hh : A.handled = none) (hit : s.heap.IsStrIter it (strIterType x) x t i) (hx : x.cps[i]? = none)
    (hQ : ∀ h', Heap.ExtBut it s.heap h' → Q none { s with heap := h' }) : wpAny (model P w) A (pyNext (.ref it)) Q E s := by
  unfold strIterType at hit
  by_cases h : (x.cps.all (· < 128)) = true
  · rw [if_pos h] at hit
    exact wpAny_pyNext_ascii_end hh hit hx hQ
  · rw [if_neg h] at hit
    exact wpAny_pyNext_wide_end hh hit hx hQ
noncomputable def SignsV : List Nat → List Value → Prop
  | [], [] => True
  | c :: cs, v :: vs => (∃ t, v = .str ⟨#[c]⟩ t) ∧ SignsV cs vs
  | _, _ => False
theorem signs_len : ∀ {cs : List Nat} {us : List Value}, SignsV cs us → us.length = cs.length
  | [], [], _ => rfl
  | c :: cs, v :: vs, ⟨_, t⟩ => by rw [List.length_cons, List.length_cons, signs_len t]
  | [], _ :: _, h => h.elim
  | _ :: _, [], h => h.elim
theorem draw_signs {it : Addr} {x : Str} {t : Tok} : ∀ (n i : Nat) (s : Shared) (Q : List Value → Shared → Prop), s.heap.IsStrIter it (strIterType x) x t i → i + n ≤ x.cps.size →
    (∀ h' tk vs, h'.IsStrIter it (strIterType x) x t (i + n) → Heap.SameBut it s.heap h' → SignsV ((x.cps.toList.drop i).take n) vs → Q vs { s with heap := h', toks := tk }) → wpAny (model P w) A (draw (.ref it) n) Q E s
  | 0, i, s, Q, hit, _, hQ => by
    show wpAny _ _ (pure []) Q E s
    exact wpAny_pure (hQ s.heap s.toks [] hit (Heap.SameBut.refl ..) (by simp [SignsV]))
  | n + 1, i, s, Q, hit, hle, hQ => by
    have hlt : i < x.cps.size := by omega
    show wpAny _ _ (pyNext (.ref it) >>= _) Q E s
    refine wpAny_bind (next_item hit (c := x.cps[i]) (by simp [hlt]) fun h₁ hit₁ hs₁ => ?_)
    refine wpAny_bind (wpAny_holding (draw_signs n (i + 1) _ _ hit₁ (by omega) fun h₂ tk vs hit₂ hs₂ sv => wpAny_pure ?_))
    have hd : x.cps.toList.drop i = x.cps[i] :: x.cps.toList.drop (i + 1) := by
      rw [List.drop_eq_getElem_cons (by simpa using hlt)]
      simp
    refine hQ h₂ tk _ (by rw [show i + (n + 1) = i + 1 + n by omega]; exact hit₂) (hs₁.trans hs₂) ?_
    rw [hd, List.take_succ_cons]
    exact ⟨⟨_, rfl⟩, sv⟩
theorem unpack_text {x : Str} {t : Tok} {Q : List Value → Shared → Prop} (hh : A.handled = none)
    (hQ : ∀ h' tk vs, Heap.ExtBut s.heap.objs.size s.heap h' → SignsV x.cps.toList vs → Q vs { s with heap := h', toks := tk }) : wpAny (model P w) A (unpackItems (.str x t) x.cps.size none) Q E s := by
  unfold unpackItems
  refine wpAny_bind ?_
  · unfold notIterableAtAll
    refine wpAny_bind (wpAny_specialOf (typeIs_str s x t) PySem.F.slot_str_iter.lookup ?_)
    refine wpAny_pure ?_
    simp only [Bool.false_eq_true, if_false]
    refine wpAny_bind (wpAny_holding (wpAny_pyIter_strU ?_))
    refine wpAny_bind (wpAny_holding (draw_signs x.cps.size 0 _ _ ⟨_, Heap.get?_push_size _ rfl, rfl, rfl⟩ (by omega) fun h₁ tk vs hit₁ hs₁ sv => ?_))
    have hall : List.take x.cps.size (List.drop 0 x.cps.toList) = x.cps.toList := by
      rw [List.drop_zero]; exact List.take_of_length_le (by simp)
    rw [hall] at sv
    have ln : vs.length = x.cps.size := (signs_len sv).trans Array.length_toList
    rw [if_neg (by simp; omega)]
    refine wpAny_bind (wpAny_holding (next_end hh hit₁ (by simp) fun h₂ he₂ => ?_))
    simp only [Option.isSome_none, Bool.false_eq_true, if_false]
    refine wpAny_pure (hQ h₂ tk vs (fun b o hb e => he₂ b o hb (hs₁.extBut b o hb (Heap.get?_push_of_some _ e))) sv)
end
section
variable {X : Cx} {pos : Pos}
theorem signs_vals : ∀ {cs : List Nat} {us : List Value}, SignsV cs us → Vals (cs.map fun c => V.str ⟨#[c]⟩) us
  | [], [], _ => .nil
  | c :: cs, v :: vs, ⟨h, t⟩ => .cons h (signs_vals t)
  | [], _ :: _, h => h.elim
  | _ :: _, [], h => h.elim
noncomputable def gUnS (n : Nat) (t : TGs) : TG := fun v σ H Q => ∃ z : Str, v = .str z ∧ z.cps.size = n ∧ t (z.cps.toList.map fun c => V.str ⟨#[c]⟩) σ H Q
theorem pg_unS {es : List Expr} {k : Nat} {t : TGs} {n : Nat} (hc : X.calm = true) (h : PGs X es t)
    (hn : (assignEach es X.env).length = n := by rfl) (hst : (assignEach es X.env).findIdx? (·.1) = none := by rfl) : PG X (.Tuple es k pos) (gUnS n t) := by
  refine ⟨fun pins s σ H v u Q I r hw => ?_⟩
  obtain ⟨z, e1, hl, hw⟩ := hw
  subst e1
  obtain ⟨tk, rfl⟩ := r
  rw [PyProof.Rows.assign_Tuple]
  refine wpAny_bind (wpAny_standAt ?_)
  unfold unpack
  rw [hn, ← hl, hst]
  refine wpAny_bind (wpAny_holding (unpack_text (I.ok.hd hc) fun h' tk' vs hx sv => ?_))
  have I1 : Inv X pins σ H { s with heap := h', toks := tk' } := I.kept (t' := tk') fun b o e => hx b o (Nat.ne_of_lt (Heap.lt_size e)) e
  exact h.run pins _ σ H _ vs Q I1 (signs_vals sv) hw
noncomputable def gS (n : Nat) (Gs : MGs) : MG := fun d ρ => match d with
  | .str z => if z.cps.size = n then Gs (signsD z) ρ else none
  | _ => none
theorem dqAll_signs {K : Fg} {F : Hp} : ∀ cs : List Nat, DqAll K F (cs.map fun c => V.str ⟨#[c]⟩) (cs.map fun c => .str ⟨#[c]⟩)
  | [] => .nil
  | c :: cs => .cons (.str _) (dqAll_signs cs)
theorem vg_unS {es : List Expr} {k n : Nat} {vs : List Nat} {gs : TGs} {Gs : MGs} (hc : X.calm = true) (h : VGs X es gs vs Gs) (hn : (assignEach es X.env).length = n := by rfl) (hst : (assignEach es X.env).findIdx? (·.1) = none := by rfl) : VG X (.Tuple es k pos) (gUnS n gs) vs (gS n Gs) := by
  obtain ⟨p1, q1⟩ := h
  refine ⟨pg_unS hc p1 hn hst, fun v σ H Q F ρ fp d ρ' E hd e k => ?_⟩
  unfold gS at e
  split at e
  · split at e
    · rename_i z hl
      have hd : Dq X.K F v (.str z) := hd
      cases hd
      exact ⟨z, rfl, hl, q1 _ σ H Q F ρ fp _ ρ' E (dqAll_signs _) e k⟩
    · cases e
  · cases e
noncomputable def revS (z : Str) : Str := ⟨z.cps.toList.reverse.toArray⟩
variable {T : List Nat} {W : WV} {a : Expr} {fa : M Rv} {p2 p3 p4 : Pos}
noncomputable def tRevS (te : TE) : TE := fun σ H Q => te σ H fun x H1 => ∃ z, x = .str z ∧ z.length ≤ sizeLine ∧ Q (.str (revS z)) H1
theorem rev_picked {z : Str} {st : Option (Int × Tok)} (h : st.map (·.1) = some (-1)) : ((slicePicked z none none st).filterMap (z.cps[·]?)).toArray = (revS z).cps := by
  unfold slicePicked
  rw [h]
  show ((sliceRange ((z.length : Int) - 1) (-1) (-1)).filterMap (z.cps[·]?)).toArray = z.cps.toList.reverse.toArray
  rw [PySem.W.krv_sliceRange, PySem.W.krv_range, List.filterMap_reverse]
  congr 1
  exact congrArg List.reverse (PySem.W.krv_all z.cps)
theorem pe_revS {e : Expr} {te : TE} {k : Nat} {p1 p2 p3 pos : Pos} (he : PE X e te) : PE X (.Subscript e (.Slice none none (some (.UnaryOp .USub (.Constant (.int 1) k p1) p2)) p3) pos) (tRevS te) := by
  refine ⟨fun pins s σ H Q I h => ?_⟩
  refine Subscript_ (thn (he.run pins s σ H _ I h) fun v s1 ⟨x, H1, I1, r1, q1⟩ => ?_)
  obtain ⟨z, ex, hz, q⟩ := q1
  subst ex
  obtain ⟨t, rfl⟩ := r1
  have hst : PO X (some (.UnaryOp .USub (.Constant (.int 1) k p1) p2)) (tPart (tUn (rU fun i => .int (-i)) (tC (.int 1)))) := po_some (pe_un un_neg pe_int)
  refine wpAny_Slice (thn (po_none.run pins s1 σ H1 (fun o H2 => o = none ∧ H2 = H1) I1 ⟨rfl, rfl⟩) fun vl s2 ⟨l, H2, I2, pl, el, e2⟩ => ?_)
  subst el e2
  refine thn (po_none.run pins s2 σ H2 (fun o H3 => o = none ∧ H3 = H2) I2 ⟨rfl, rfl⟩) fun vu s3 ⟨u, H3, I3, pu, eu, e3⟩ => ?_
  subst eu e3
  refine thn (hst.run pins s3 σ H3 (fun o H4 => o = some (-1) ∧ H4 = H3) I3 ⟨1, rfl, -1, rfl, rfl, rfl⟩) fun vs s4 ⟨o, H4, I4, ps, eo, e4⟩ => ?_
  subst eo e4
  have I5 : L2.Inv X pins σ H4 { s4 with heap := s4.heap.push { cls := .type "slice", data := .fields #[vl, vu, vs] } } := I4.kept (t' := s4.toks) fun b ob q => Heap.get?_push_of_some _ q
  obtain ⟨l, hl1, hl2⟩ := IsPart.raw pl
  obtain ⟨u, hu1, hu2⟩ := IsPart.raw pu
  obtain ⟨st, hs1, hs2⟩ := IsPart.raw ps
  have el : l = none := by simpa using hl2
  have eu : u = none := by simpa using hu2
  subst el eu hl1 hu1 hs1
  show wpAny (model X.prog X.w) X.A (subscriptTail e (.Slice none none (some (.UnaryOp .USub (.Constant (.int 1) k p1) p2)) p3) (.str z t) (.ref s4.heap.objs.size)) (EP X pins σ Q) X.xe { s4 with heap := s4.heap.push { cls := .type "slice", data := .fields #[partValue none, partValue none, partValue st] } }
  refine tail_any (ops := [.str z t, .ref s4.heap.objs.size]) (typeIs_str _ z t) PySem.F.slot_str_getitem.lookup ?_ (by with_unfolding_all rfl)
  refine wpAny_getItem_str_slice (l := none) (u := none) (st := st) ⟨_, Heap.get?_push_size _ rfl, rfl, rfl⟩ ?_ ?_
  · rw [hs2]; decide
  · have hl : (revS z).length ≤ sizeLine := by
      show (z.cps.toList.reverse.toArray).size ≤ sizeLine
      rw [List.size_toArray, List.length_reverse, Array.length_toList]
      exact hz
    unfold sliceMade
    rw [if_neg (by rw [hs2]; simp), rev_picked hs2]
    exact ⟨hl, .str _, _, I5.tok _, ⟨_, rfl⟩, q⟩
noncomputable def revS1 (x : Rv) : M Rv := fun ρ => match x with
  | .d (.str z) => if z.length ≤ sizeLine then some (.ok (.d (.str (revS z))) ρ) else none
  | _ => none
noncomputable def cRevS (f : M Rv) : M Rv := bnd f revS1
theorem ve_revS {k : Nat} {p1 p2 p3 pos : Pos} (ha : VE X T W a fa) : VE X T W (.Subscript a (.Slice none none (some (.UnaryOp .USub (.Constant (.int 1) k p1) p2)) p3) pos) (cRevS fa) :=
  pe_imp (pe_revS ha) fun σ H Q ⟨F, ρ, fp, o, E, e, P⟩ => by
    refine tv_bnd E e P (fun i hi => hi) fun x ρ1 v H1 F1 fp1 s1 r1 e1 P1 => ?_
    unfold revS1 at e1
    split at e1
    · split at e1
      · rename_i z hz
        cases ok_inj e1
        have hv : Dq X.K F1 v (.str z) := r1
        cases hv
        exact ⟨z, rfl, hz, P1 _ H1 F1 fp1 (.refl s1.env) (.str _)⟩
      · cases e1
    · cases e1
end
end VL

end

section
set_option Elab.async false
set_option linter.all false
set_option maxRecDepth 100000
namespace K24
open PySem PySem.Spec PyProof.Rows L2 VL SM SN
noncomputable def s_at : Str := ⟨#[97, 116]⟩
theorem e_at : ("at" : Str) = s_at := by decide +kernel
noncomputable def s_x78 : Str := ⟨#[120]⟩
theorem e_x78 : ("x" : Str) = s_x78 := by decide +kernel
noncomputable def s_c : Str := ⟨#[99]⟩
theorem e_c : ("c" : Str) = s_c := by decide +kernel
noncomputable def s_w : Str := ⟨#[119]⟩
theorem e_w : ("w" : Str) = s_w := by decide +kernel
noncomputable def s_to : Str := ⟨#[116, 111]⟩
theorem e_to : ("to" : Str) = s_to := by decide +kernel
noncomputable def s_from : Str := ⟨#[102, 114, 111, 109]⟩
theorem e_from : ("from" : Str) = s_from := by decide +kernel
noncomputable def s_x2021222324262728292a2b2c2d2e2f303132333435363738393a3b3c3d3e3f404142434445464748494a4b4c4d4e4f505152535455565758595a5b5c5d5e5f606162636465666768696a6b6c6d6e6f707172737475767778797a7b7c7d7e0a : Str := ⟨#[32, 33, 34, 35, 36, 38, 39, 40, 41, 42, 43, 44, 45, 46, 47, 48, 49, 50, 51, 52, 53, 54, 55, 56, 57, 58, 59, 60, 61, 62, 63, 64, 65, 66, 67, 68, 69, 70, 71, 72, 73, 74, 75, 76, 77, 78, 79, 80, 81, 82, 83, 84, 85, 86, 87, 88, 89, 90, 91, 92, 93, 94, 95, 96, 97, 98, 99, 100, 101, 102, 103, 104, 105, 106, 107, 108, 109, 110, 111, 112, 113, 114, 115, 116, 117, 118, 119, 120, 121, 122, 123, 124, 125, 126, 10]⟩
theorem e_x2021222324262728292a2b2c2d2e2f303132333435363738393a3b3c3d3e3f404142434445464748494a4b4c4d4e4f505152535455565758595a5b5c5d5e5f606162636465666768696a6b6c6d6e6f707172737475767778797a7b7c7d7e0a : (" !\"#$&'()*+,-./0123456789:;<=>?@ABCDEFGHIJKLMNOPQRSTUVWXYZ[\\]^_`abcdefghijklmnopqrstuvwxyz{|}~\n" : Str) = s_x2021222324262728292a2b2c2d2e2f303132333435363738393a3b3c3d3e3f404142434445464748494a4b4c4d4e4f505152535455565758595a5b5c5d5e5f606162636465666768696a6b6c6d6e6f707172737475767778797a7b7c7d7e0a := by decide +kernel
noncomputable def s_bs : Str := ⟨#[98, 115]⟩
theorem e_bs : ("bs" : Str) = s_bs := by decide +kernel
noncomputable def s_123456789 : Str := ⟨#[49, 50, 51, 52, 53, 54, 55, 56, 57]⟩
theorem e_123456789 : ("123456789" : Str) = s_123456789 := by decide +kernel
noncomputable def s_cw : Str := ⟨#[99, 119]⟩
theorem e_cw : ("cw" : Str) = s_cw := by decide +kernel
noncomputable def s_x4e6f546578742b : Str := ⟨#[78, 111, 84, 101, 120, 116, 43]⟩
theorem e_x4e6f546578742b : ("NoText+" : Str) = s_x4e6f546578742b := by decide +kernel
noncomputable def s_5 : Str := ⟨#[53]⟩
theorem e_5 : ("5" : Str) = s_5 := by decide +kernel
noncomputable def tb_LETTERS : List (Str × PyData) := [(sIn, (.str s_b)), (sOut, (.str s_s)), (sChin, (.str s_c)), (sBrow, (.str s_w))]
noncomputable def tb_PARTS : List (Str × PyData) := [(s_b, (.str sIn)), (s_s, (.str sOut)), (s_c, (.str sChin)), (s_w, (.str sBrow))]
noncomputable def tb_LINKS : List (Str × PyData) := [(sBought, (.str s_from)), (sSold, (.str s_to))]
noncomputable def g_number_of : MS := (sSeq (sIf (cOr (cCmp ltD (cCall lenD (aCons (cVar 0) aNil)) (cD (.int 1))) (cOr (cCmp gtD (cCall lenD (aCons (cVar 0) aNil)) (cVar 1)) (cAnd (cCmp eqD (cBin subD (cVar 0) (cD (.int 0))) (cD (.str s_0))) (cCmp neD (cVar 0) (cD (.str s_0)))))) (sRet (nDat (cD .none))) sNil)
  (sSeq (sIf (cNot (cTest (cCall allD (aCons (cFrz (nComp (iSeqT (cVar 0)) [2] (gN 2) tYesM (cOf (cCmp inD (cVar 2) (cD (.str s_0123456789)))))) aNil)))) (sRet (nDat (cD .none))) sNil)
  (sRet (nDat (cCall intTD (aCons (cVar 0) aNil))))))
noncomputable def F_number_of : Fn := runF 3 g_number_of
noncomputable def g_showing_text : MS := (sRet (nDat (cBin addD (cCall strD (aCons (cBin subD (cVar 0) (cD (.int 0))) aNil)) (cTab tb_LETTERS (cBin subD (cVar 0) (cD (.int 1)))))))
noncomputable def F_showing_text : Fn := runF 1 g_showing_text
noncomputable def g_card_text : MS := (sSeq (sAsg (gT 6 (gsC (gN 1) (gsC (gN 2) (gsC (gN 3) (gsC (gN 4) (gsC (gN 5) (gsC (gN 6) gsN))))))) (cVar 0))
  (sSeq (sSet 7 (cFrz (nLst (aCons (cCall strD (aCons (cVar 1) aNil)) (aCons (cVar 3) (aCons (cCall strD (aCons (cVar 5) aNil)) (aCons (cD (.str s_at)) (aCons (cCall strD (aCons (cVar 4) aNil)) (aCons (cTab tb_LINKS (cVar 3)) (aCons (cCall strD (aCons (cVar 2) aNil)) (aCons (cD (.str sIn)) (aCons (cCall strD (aCons (cVar 6) aNil)) aNil))))))))))))
  (sRet (nDat (cJoin (cD (.str s_x20)) (cVar 7))))))
noncomputable def F_card_text : Fn := runF 8 g_card_text
noncomputable def g__law_number : MS := (sSeq (sSet 2 (cFrz (nComp (iSeqT (cVar 0)) [3] (gN 3) (cCmp notInD (cVar 3) (cD (.str s_0123456789))) (cVar 3))))
  (sSeq (sIf (cOr (cCmp ltD (cCall lenD (aCons (cVar 0) aNil)) (cD (.int 1))) (cOr (cCmp gtD (cCall lenD (aCons (cVar 0) aNil)) (cVar 1)) (cCmp neD (cVar 2) (cFrz (nLst aNil))))) (sRet (nDat (cD .none))) sNil)
  (sRet (nDat (cIf (cAnd (cCmp eqD (cBin subD (cVar 0) (cD (.int 0))) (cD (.str s_0))) (cCmp neD (cVar 0) (cD (.str s_0)))) (cD .none) (cCall intTD (aCons (cVar 0) aNil)))))))
noncomputable def F__law_number : Fn := runF 4 g__law_number
noncomputable def g__law_sign_text : MS := (sSeq (sAsg (gT 4 (gsC (gN 1) (gsC (gN 2) (gsC (gN 3) (gsC (gN 4) gsN))))) (cVar 0))
  (sRet (nDat (cBin addD (cBin addD (cBin addD (cBin addD (cBin subD (cFrz (nLst (aCons (cD (.str s_s)) (aCons (cD (.str s_b)) aNil)))) (cCall intD (aCons (cOf (cCmp eqD (cVar 1) (cD (.str sIn)))) aNil))) (cCall strD (aCons (cVar 2) aNil))) (cD (.str s_x78))) (cCall strD (aCons (cVar 3) aNil))) (cBin subD (cFrz (nLst (aCons (cD (.str s_w)) (aCons (cD (.str s_c)) aNil)))) (cCall intD (aCons (cOf (cCmp eqD (cVar 4) (cD (.str sChin)))) aNil)))))))
noncomputable def F__law_sign_text : Fn := runF 5 g__law_sign_text
noncomputable def g__law_card_text : MS := (sSeq (sAsg (gT 6 (gsC (gN 1) (gsC (gN 2) (gsC (gN 3) (gsC (gN 4) (gsC (gN 5) (gsC (gN 6) gsN))))))) (cVar 0))
  (sSeq (sSet 7 (cFrz (nLst (aCons (cCall strD (aCons (cVar 1) aNil)) (aCons (cVar 3) (aCons (cCall strD (aCons (cVar 5) aNil)) (aCons (cD (.str s_at)) (aCons (cCall strD (aCons (cVar 4) aNil)) (aCons (cBin subD (cFrz (nLst (aCons (cD (.str s_from)) (aCons (cD (.str s_to)) aNil)))) (cCall intD (aCons (cOf (cCmp eqD (cVar 3) (cD (.str sSold)))) aNil))) aNil)))))))))
  (sRet (nDat (cJoin (cD (.str s_x20)) (cBin addD (cVar 7) (cFrz (nLst (aCons (cCall strD (aCons (cVar 2) aNil)) (aCons (cD (.str sIn)) (aCons (cCall strD (aCons (cVar 6) aNil)) aNil)))))))))))
noncomputable def F__law_card_text : Fn := runF 8 g__law_card_text
noncomputable def g_sign_text : MS := (sRet (nDat (cBin addD (cBin addD (cBin addD (cTab tb_LETTERS (cBin subD (cVar 0) (cD (.int 0)))) (cCall strD (aCons (cBin subD (cVar 0) (cD (.int 1))) aNil))) (cD (.str s_x78))) (cFrz (nCall [] 1 F_showing_text (aCons (cCut (cVar 0) (oSome (cD (.int 2))) oNone) aNil))))))
noncomputable def F_sign_text : Fn := runF 1 g_sign_text
noncomputable def g__law_bent : MS := (sSeq (sSet 3 (cD (.str s_x2021222324262728292a2b2c2d2e2f303132333435363738393a3b3c3d3e3f404142434445464748494a4b4c4d4e4f505152535455565758595a5b5c5d5e5f606162636465666768696a6b6c6d6e6f707172737475767778797a7b7c7d7e0a)))
  (sSeq (sSet 4 (cBin subD (cFrz (nLst (aCons (cBin subD (cVar 3) (cFrz (nCall [0] 2 fTake (aCons (cVar 0) (aCons (cCall lenD (aCons (cVar 3) aNil)) aNil))))) (aCons (cBin subD (cVar 2) (cFrz (nCall [0] 2 fTake (aCons (cVar 0) (aCons (cCall lenD (aCons (cVar 2) aNil)) aNil))))) aNil)))) (cFrz (nCall [0] 2 fTake (aCons (cVar 0) (aCons (cD (.int 2)) aNil))))))
  (sSeq (sSet 5 (cFrz (nCall [0] 2 fTake (aCons (cVar 0) (aCons (cBin addD (cCall lenD (aCons (cVar 1) aNil)) (cD (.int 1))) aNil)))))
  (sSeq (sSet 6 (cFrz (nCall [0] 2 fTake (aCons (cVar 0) (aCons (cD (.int 8)) aNil)))))
  (sSeq (sIf (cCmp ltD (cVar 6) (cD (.int 2))) (sRet (nDat (cBin addD (cBin addD (cCut (cVar 1) oNone (oSome (cVar 5))) (cVar 4)) (cCut (cVar 1) (oSome (cBin addD (cVar 5) (cVar 6))) oNone)))) sNil)
  (sSeq (sIf (cCmp eqD (cVar 6) (cD (.int 2))) (sRet (nDat (cBin addD (cCut (cVar 1) oNone (oSome (cVar 5))) (cCut (cVar 1) (oSome (cBin addD (cVar 5) (cD (.int 1)))) oNone)))) sNil)
  (sSeq (sIf (cCmp eqD (cVar 6) (cD (.int 3))) (sRet (nDat (cBin addD (cCut (cVar 1) oNone (oSome (cBin addD (cVar 5) (cD (.int 1))))) (cCut (cVar 1) (oSome (cVar 5)) oNone)))) sNil)
  (sSeq (sIf (cCmp eqD (cVar 6) (cD (.int 4))) (sRet (nDat (cBin addD (cBin addD (cCut (cVar 1) oNone (oSome (cVar 5))) (cRevS (cCut (cVar 1) (oSome (cVar 5)) (oSome (cBin addD (cVar 5) (cD (.int 2))))))) (cCut (cVar 1) (oSome (cBin addD (cVar 5) (cD (.int 2)))) oNone)))) sNil)
  (sSeq (sSet 7 (cSplit (cVar 1) (cD (.str s_x20))))
  (sSeq (sSet 5 (cFrz (nCall [0] 2 fTake (aCons (cVar 0) (aCons (cCall lenD (aCons (cVar 7) aNil)) aNil)))))
  (sSeq (sSet 8 (cBin subD (cFrz (nLst (aCons (cFrz (nLst aNil)) (aCons (cBin repD (cFrz (nLst (aCons (cBin subD (cVar 7) (cVar 5)) aNil))) (cD (.int 2))) (aCons (cFrz (nLst (aCons (cBin subD (cVar 7) (cFrz (nCall [0] 2 fTake (aCons (cVar 0) (aCons (cCall lenD (aCons (cVar 7) aNil)) aNil))))) aNil))) aNil))))) (cBin subtD (cVar 6) (cD (.int 5)))))
  (sRet (nDat (cJoin (cD (.str s_x20)) (cBin addD (cBin addD (cCut (cVar 7) oNone (oSome (cVar 5))) (cVar 8)) (cCut (cVar 7) (oSome (cBin addD (cVar 5) (cD (.int 1)))) oNone))))))))))))))))
noncomputable def F__law_bent : Fn := runF 9 g__law_bent
noncomputable def g__law_read_card : MS := (sSeq (sSet 1 (cSplit (cVar 0) (cD (.str s_x20))))
  (sSeq (sIf (cOr (cCmp neD (cCall lenD (aCons (cVar 1) aNil)) (cD (.int 9))) (cCmp notInD (cBin subD (cVar 1) (cD (.int 1))) (cFrz (nLst (aCons (cD (.str sBought)) (aCons (cD (.str sSold)) aNil)))))) (sRet (nDat (cD .none))) sNil)
  (sSeq (sIf (cCmp neD (cFrz (nLst (aCons (cBin subD (cVar 1) (cD (.int 3))) (aCons (cBin subD (cVar 1) (cD (.int 5))) (aCons (cBin subD (cVar 1) (cD (.int 7))) aNil))))) (cFrz (nLst (aCons (cD (.str s_at)) (aCons (cBin subD (cFrz (nLst (aCons (cD (.str s_from)) (aCons (cD (.str s_to)) aNil)))) (cCall intD (aCons (cOf (cCmp eqD (cBin subD (cVar 1) (cD (.int 1))) (cD (.str sSold)))) aNil))) (aCons (cD (.str sIn)) aNil)))))) (sRet (nDat (cD .none))) sNil)
  (sSeq (sSet 2 (cFrz (nComp (iSeq (cTup (aCons (cD (.int 0)) (aCons (cD (.int 6)) (aCons (cD (.int 4)) (aCons (cD (.int 2)) (aCons (cD (.int 8)) aNil))))))) [3] (gN 3) tYesM (cFrz (nCall [] 2 F__law_number (aCons (cBin subD (cVar 1) (cVar 3)) (aCons (cD (.int 20)) aNil)))))))
  (sSeq (sSet 4 (cBin addD (cTup (aCons (cBin subD (cVar 2) (cD (.int 0))) (aCons (cBin subD (cVar 2) (cD (.int 1))) (aCons (cBin subD (cVar 1) (cD (.int 1))) aNil)))) (cCall tupleD (aCons (cCut (cVar 2) (oSome (cD (.int 2))) oNone) aNil))))
  (sRet (nDat (cIf (cTest (cFrz (nCall [4] 1 SM.F__law_is_card (aCons (cVar 4) aNil)))) (cVar 4) (cD .none)))))))))
noncomputable def F__law_read_card : Fn := runF 5 g__law_read_card
noncomputable def g_showing_in : MS := (sSeq (sIf (cCmp neD (cCall lenD (aCons (cVar 0) aNil)) (cD (.int 2))) (sRet (nDat (cD .none))) sNil)
  (sSeq (sSet 1 (cTup (aCons (cFrz (nCall [] 2 F_number_of (aCons (cBin subD (cVar 0) (cD (.int 0))) (aCons (cD (.int 1)) aNil)))) (aCons (cTabG tb_PARTS (aCons (cBin subD (cVar 0) (cD (.int 1))) (aCons (cD (.str s_x)) aNil))) aNil))))
  (sRet (nDat (cIf (cTest (cFrz (nCall [1] 1 SM.F_is_showing (aCons (cVar 1) aNil)))) (cVar 1) (cD .none))))))
noncomputable def F_showing_in : Fn := runF 2 g_showing_in
noncomputable def g_read_card : MS := (sSeq (sSet 1 (cIf (cTest (cIsi .str (cVar 0))) (cSplit (cVar 0) (cD (.str s_x20))) (cFrz (nLst aNil))))
  (sSeq (sIf (cOr (cCmp neD (cCall lenD (aCons (cVar 1) aNil)) (cD (.int 9))) (cTabIn true tb_LINKS (cBin subD (cVar 1) (cD (.int 1))))) (sRaise SM.s_NoText) sNil)
  (sSeq (sIf (cCmp neD (cFrz (nLst (aCons (cBin subD (cVar 1) (cD (.int 3))) (aCons (cBin subD (cVar 1) (cD (.int 5))) (aCons (cBin subD (cVar 1) (cD (.int 7))) aNil))))) (cFrz (nLst (aCons (cD (.str s_at)) (aCons (cTab tb_LINKS (cBin subD (cVar 1) (cD (.int 1)))) (aCons (cD (.str sIn)) aNil)))))) (sRaise SM.s_NoText) sNil)
  (sSeq (sAsg (gL 4 (gsC (gN 2) (gsC (gN 3) (gsC (gN 4) (gsC (gN 5) gsN))))) (cFrz (nComp (iSeq (cTup (aCons (cD (.int 2)) (aCons (cD (.int 4)) (aCons (cD (.int 6)) (aCons (cD (.int 8)) aNil)))))) [6] (gN 6) tYesM (cFrz (nCall [] 2 F_number_of (aCons (cBin subD (cVar 1) (cVar 6)) (aCons (cD (.int 20)) aNil)))))))
  (sSeq (sSet 7 (cTup (aCons (cFrz (nCall [] 2 F_number_of (aCons (cBin subD (cVar 1) (cD (.int 0))) (aCons (cD (.int 20)) aNil)))) (aCons (cVar 4) (aCons (cBin subD (cVar 1) (cD (.int 1))) (aCons (cVar 3) (aCons (cVar 2) (aCons (cVar 5) aNil))))))))
  (sSeq (sIf (cNot (cTest (cFrz (nCall [7] 1 SM.F_is_card (aCons (cVar 7) aNil))))) (sRaise SM.s_NoText) sNil)
  (sRetV 7)))))))
noncomputable def F_read_card : Fn := runF 8 g_read_card
noncomputable def g__law_read_sign (F : Fn) : MS := (sSeq (sIf (cCmp eqD (cCall lenD (aCons (cVar 0) aNil)) (cD (.int 2))) (sSeq (sAsg (gS 2 (gsC (gN 1) (gsC (gN 2) gsN))) (cVar 0))
  (sSeq (sIf (cAnd (cCmp inD (cVar 1) (cD (.str s_123456789))) (cCmp inD (cVar 2) (cD (.str s_cw)))) (sRet (nDat (cTup (aCons (cCall intTD (aCons (cVar 1) aNil)) (aCons (cBin subD (cFrz (nLst (aCons (cD (.str sChin)) (aCons (cD (.str sBrow)) aNil)))) (cCall intTD (aCons (cOf (cCmp eqD (cVar 2) (cD (.str s_w)))) aNil))) aNil))))) sNil)
  (sRet (nDat (cD .none))))) sNil)
  (sSeq (sIf (cOr (cCmp neD (cCall lenD (aCons (cVar 0) aNil)) (cD (.int 5))) (cOr (cCmp notInD (cBin subD (cVar 0) (cD (.int 0))) (cD (.str s_bs))) (cOr (cCmp notInD (cBin subD (cVar 0) (cD (.int 1))) (cD (.str s_0123456789))) (cCmp neD (cBin subD (cVar 0) (cD (.int 2))) (cD (.str s_x78)))))) (sRet (nDat (cD .none))) sNil)
  (sSeq (sSet 3 (cFrz (nCall [] 1 F (aCons (cCut (cVar 0) (oSome (cD (.int 3))) oNone) aNil))))
  (sSeq (sSet 4 (cBin subD (cFrz (nLst (aCons (cD (.str sIn)) (aCons (cD (.str sOut)) aNil)))) (cCall intTD (aCons (cOf (cCmp eqD (cBin subD (cVar 0) (cD (.int 0))) (cD (.str s_s)))) aNil))))
  (sRet (nDat (cIf (cCmp isND (cVar 3) (cD .none)) (cD .none) (cBin addD (cTup (aCons (cVar 4) (aCons (cCall intTD (aCons (cBin subD (cVar 0) (cD (.int 1))) aNil)) aNil))) (cVar 3)))))))))
noncomputable def F__law_read_sign : Nat → Fn
  | 0 => runF 5 (fun _ => none)
  | k + 1 => runF 5 (g__law_read_sign (F__law_read_sign k))
noncomputable def g_sign_in : MS := (sSeq (sIf (cOr (cCmp neD (cCall lenD (aCons (cVar 0) aNil)) (cD (.int 5))) (cOr (cCmp neD (cBin subD (cVar 0) (cD (.int 2))) (cD (.str s_x78))) (cCmp isND (cFrz (nCall [] 1 F_showing_in (aCons (cCut (cVar 0) (oSome (cD (.int 3))) oNone) aNil))) (cD .none)))) (sRet (nDat (cD .none))) sNil)
  (sSeq (sSet 1 (cBin addD (cTup (aCons (cTabG tb_PARTS (aCons (cBin subD (cVar 0) (cD (.int 0))) (aCons (cD (.str s_x)) aNil))) (aCons (cFrz (nCall [] 2 F_number_of (aCons (cBin subD (cVar 0) (cD (.int 1))) (aCons (cD (.int 1)) aNil)))) aNil))) (cFrz (nCall [] 1 F_showing_in (aCons (cCut (cVar 0) (oSome (cD (.int 3))) oNone) aNil)))))
  (sRet (nDat (cIf (cTest (cFrz (nCall [1] 1 SM.F_is_sign (aCons (cVar 1) aNil)))) (cVar 1) (cD .none))))))
noncomputable def F_sign_in : Fn := runF 2 g_sign_in
noncomputable def g_read_showing : MS := (sSeq (sIf (cOr (cNot (cTest (cIsi .str (cVar 0)))) (cCmp isND (cFrz (nCall [0] 1 F_showing_in (aCons (cVar 0) aNil))) (cD .none))) (sRaise SM.s_NoText) sNil)
  (sRet (nCall [0] 1 F_showing_in (aCons (cVar 0) aNil))))
noncomputable def F_read_showing : Fn := runF 1 g_read_showing
noncomputable def g_read_sign : MS := (sSeq (sIf (cOr (cNot (cTest (cIsi .str (cVar 0)))) (cCmp isND (cFrz (nCall [0] 1 F_sign_in (aCons (cVar 0) aNil))) (cD .none))) (sRaise SM.s_NoText) sNil)
  (sRet (nCall [0] 1 F_sign_in (aCons (cVar 0) aNil))))
noncomputable def F_read_sign : Fn := runF 1 g_read_sign
noncomputable def g__law_read_by : MS := (sSeq (sSet 2 (cD .none))
  (sSeq (sSet 3 (cD (.str s_x)))
  (sSeq (sTryK kNames 4 3 (sSet 2 (cFrz (nCallIx [1] 1 [F_read_sign, F_read_showing, F_read_card] (cVar 0) (aCons (cVar 1) aNil)))))
  (sRet (nDat (cIf (cCmp eqD (cVar 3) (cD (.str s_x))) (cVar 2) (cVar 3)))))))
noncomputable def F__law_read_by : Fn := runF 5 g__law_read_by
noncomputable def g__law_right : MS := (sSeq (sSet 1 (cFrz (nCall [0] 1 (F__law_read_sign 3) (aCons (cVar 0) aNil))))
  (sSeq (sSet 2 (cFrz (nLst (aCons (cIf (cCmp eqD (cCall lenD (aCons (cVar 0) aNil)) (cD (.int 5))) (cVar 1) (cD .none)) (aCons (cIf (cCmp eqD (cCall lenD (aCons (cVar 0) aNil)) (cD (.int 2))) (cVar 1) (cD .none)) (aCons (cFrz (nCall [0] 1 F__law_read_card (aCons (cVar 0) aNil))) aNil))))))
  (sRet (nDat (cOf (cCmp eqD (cFrz (nComp (iRange1 (aCons (cD (.int 3)) aNil)) [3] (gN 3) tYesM (cFrz (nCall [3, 0] 2 F__law_read_by (aCons (cVar 3) (aCons (cVar 0) aNil)))))) (cFrz (nComp (iSeq (cVar 2)) [4] (gN 4) tYesM (cIf (cCmp isND (cVar 4) (cD .none)) (cD (.str s_x4e6f546578742b)) (cVar 4))))))))))
noncomputable def F__law_right : Fn := runF 5 g__law_right
noncomputable def b_law_0 : MS := (sIf (cCmp neD (cFrz (nComp (iRange1 (aCons (cD (.int 3)) aNil)) [9] (gN 9) tYesM (cFrz (nCall [9, 8] 2 F__law_read_by (aCons (cVar 9) (aCons (cVar 8) aNil)))))) (cBin repD (cFrz (nLst (aCons (cD (.str s_x4e6f546578742b)) aNil))) (cD (.int 3)))) (sRet (nDat (cD (.bool false)))) sNil)
noncomputable def b_law_1 : MS := (sSeq (sSet 6 (cFrz (nCall [2, 6] 3 F__law_bent (aCons (cVar 2) (aCons (cVar 6) (aCons (cFrz (nLst (aCons (cD (.str s_0)) (aCons (cD (.str s_5)) (aCons (cD (.str s_b)) (aCons (cD (.str s_s)) (aCons (cD (.str s_x78)) (aCons (cD (.str s_c)) (aCons (cD (.str s_w)) (aCons (cD (.str s_to)) (aCons (cD (.str s_from)) (aCons (cD (.str s_x20)) aNil)))))))))))) aNil))))))
  (sIf (cNot (cTest (cFrz (nCall [6] 1 F__law_right (aCons (cVar 6) aNil))))) (sRet (nDat (cD (.bool false)))) sNil))
noncomputable def b_law_2 : MS := (sFor (iRange1 (aCons (cD (.int 3)) aNil)) (gN 7) b_law_1)
noncomputable def b_law_3 : MS := (sSeq (sSetN 2 (nCall [0, 1] 2 fBag (aCons (cVar 0) (aCons (cVar 1) aNil))))
  (sSeq (sSet 3 (cFrz (nCall [2] 1 fSign (aCons (cVar 2) aNil))))
  (sSeq (sSet 4 (cFrz (nCall [2] 2 fCard (aCons (cVar 2) (aCons (cD (.int 12)) aNil)))))
  (sSeq (sSet 5 (cFrz (nLst (aCons (cFrz (nCall [3] 1 F__law_sign_text (aCons (cVar 3) aNil))) (aCons (cCut (cFrz (nCall [3] 1 F__law_sign_text (aCons (cVar 3) aNil))) (oSome (cD (.int 3))) oNone) (aCons (cFrz (nCall [4] 1 F__law_card_text (aCons (cVar 4) aNil))) aNil))))))
  (sSeq (sIf (cCmp neD (cFrz (nLst (aCons (cFrz (nCall [3] 1 F_sign_text (aCons (cVar 3) aNil))) (aCons (cFrz (nCall [] 1 F_showing_text (aCons (cCut (cVar 3) (oSome (cD (.int 2))) oNone) aNil))) (aCons (cFrz (nCall [4] 1 F_card_text (aCons (cVar 4) aNil))) aNil))))) (cVar 5)) (sRet (nDat (cD (.bool false)))) sNil)
  (sSeq (sIf (cCmp neD (cFrz (nLst (aCons (cFrz (nCallR [] 1 F_read_sign (aCons (cBin subD (cVar 5) (cD (.int 0))) aNil))) (aCons (cFrz (nCallR [] 1 F_read_showing (aCons (cBin subD (cVar 5) (cD (.int 1))) aNil))) (aCons (cFrz (nCallR [] 1 F_read_card (aCons (cBin subD (cVar 5) (cD (.int 2))) aNil))) aNil))))) (cFrz (nLst (aCons (cVar 3) (aCons (cCut (cVar 3) (oSome (cD (.int 2))) oNone) (aCons (cVar 4) aNil)))))) (sRet (nDat (cD (.bool false)))) sNil)
  (sSeq (sFor (iSeq (cVar 5)) (gN 6) b_law_2)
  (sFor (iSeq (cFrz (nLst (aCons (cD .none) (aCons (cD (.int 7)) (aCons (cD (.bool true)) (aCons (cVar 3) (aCons (cFrz (nLst (aCons (cBin subD (cVar 5) (cD (.int 0))) aNil))) (aCons (cTup (aCons (cBin subD (cVar 5) (cD (.int 2))) aNil)) (aCons (cD (.str s_x)) (aCons (cD (.str s_x20)) aNil))))))))))) (gN 8) b_law_0))))))))
noncomputable def g_law : MS := (sSeq (sFor (iRange1 (aCons (cBin addD (cD (.int 1)) (cCall min2D (aCons (cCall lenD (aCons (cVar 0) aNil)) (aCons (cD (.int 30)) aNil)))) aNil)) (gN 1) b_law_3)
  (sRet (nDat (cD (.bool true)))))
noncomputable def F_law : Fn := runF 10 g_law
end K24

end

section
set_option Elab.async false
set_option linter.all false
set_option maxRecDepth 100000
set_option maxHeartbeats 0
namespace K24
open PySem PySem.Spec PyProof.Rows L2 VL SM SN
noncomputable def topS (i : Nat) : Stmt := PySem.Challenge.pw_palmhall_k24_signs_and_cards_as_texts.main.body.getD i (.Pass ⟨0, 0, 0, 0⟩)
noncomputable abbrev st_is_whole : Stmt := topS 22
noncomputable abbrev st_number_of : Stmt := topS 36
noncomputable abbrev st_showing_text : Stmt := topS 37
noncomputable abbrev st_card_text : Stmt := topS 39
noncomputable abbrev st__law_bag : Stmt := topS 46
noncomputable abbrev st__law_take : Stmt := topS 47
noncomputable abbrev st__law_kinds : Stmt := topS 48
noncomputable abbrev st__law_whole : Stmt := topS 49
noncomputable abbrev st__law_number : Stmt := topS 55
noncomputable abbrev st__law_sign_text : Stmt := topS 56
noncomputable abbrev st__law_card_text : Stmt := topS 57
noncomputable abbrev st_is_within : Stmt := topS 23
noncomputable abbrev st_sign_text : Stmt := topS 38
noncomputable abbrev st__law_showing : Stmt := topS 51
noncomputable abbrev st__law_is_card : Stmt := topS 52
noncomputable abbrev st__law_card : Stmt := topS 53
noncomputable abbrev st__law_bent : Stmt := topS 54
noncomputable abbrev st_is_showing : Stmt := topS 24
noncomputable abbrev st_is_card : Stmt := topS 31
noncomputable abbrev st__law_sign : Stmt := topS 50
noncomputable abbrev st__law_read_card : Stmt := topS 59
noncomputable abbrev st_is_sign : Stmt := topS 25
noncomputable abbrev st_showing_in : Stmt := topS 40
noncomputable abbrev st_read_card : Stmt := topS 44
noncomputable abbrev st__law_read_sign : Stmt := topS 58
noncomputable abbrev st_sign_in : Stmt := topS 41
noncomputable abbrev st_read_showing : Stmt := topS 42
noncomputable abbrev st_read_sign : Stmt := topS 43
noncomputable abbrev st__law_read_by : Stmt := topS 60
noncomputable abbrev st__law_right : Stmt := topS 61
noncomputable abbrev st_law : Stmt := topS 62
set_option genInjectivity false in
set_option genSizeOf false in
structure Ad where
  f_is_whole : Addr
  d_is_whole : FuncData
  f_number_of : Addr
  d_number_of : FuncData
  f_showing_text : Addr
  d_showing_text : FuncData
  f_card_text : Addr
  d_card_text : FuncData
  f__law_bag : Addr
  d__law_bag : FuncData
  f__law_take : Addr
  d__law_take : FuncData
  f__law_kinds : Addr
  d__law_kinds : FuncData
  f__law_whole : Addr
  d__law_whole : FuncData
  f__law_number : Addr
  d__law_number : FuncData
  f__law_sign_text : Addr
  d__law_sign_text : FuncData
  f__law_card_text : Addr
  d__law_card_text : FuncData
  f_is_within : Addr
  d_is_within : FuncData
  f_sign_text : Addr
  d_sign_text : FuncData
  f__law_showing : Addr
  d__law_showing : FuncData
  f__law_is_card : Addr
  d__law_is_card : FuncData
  f__law_card : Addr
  d__law_card : FuncData
  f__law_bent : Addr
  d__law_bent : FuncData
  f_is_showing : Addr
  d_is_showing : FuncData
  f_is_card : Addr
  d_is_card : FuncData
  f__law_sign : Addr
  d__law_sign : FuncData
  f__law_read_card : Addr
  d__law_read_card : FuncData
  f_is_sign : Addr
  d_is_sign : FuncData
  f_showing_in : Addr
  d_showing_in : FuncData
  f_read_card : Addr
  d_read_card : FuncData
  f__law_read_sign : Addr
  d__law_read_sign : FuncData
  f_sign_in : Addr
  d_sign_in : FuncData
  f_read_showing : Addr
  d_read_showing : FuncData
  f_read_sign : Addr
  d_read_sign : FuncData
  f__law_read_by : Addr
  d__law_read_by : FuncData
  f__law_right : Addr
  d__law_right : FuncData
  f_law : Addr
  d_law : FuncData
  t_LETTERS : Addr
  t_PARTS : Addr
  t_LINKS : Addr
  t_PALMS : Addr
  t_PLACES : Addr
  t_SIDES : Addr
  C_BadNumber : Addr
  C_Closed : Addr
  C_NoBargain : Addr
  C_NoMember : Addr
  C_NoOffer : Addr
  C_NoQuarrel : Addr
  C_NoRow : Addr
  C_NoSign : Addr
  C_NoText : Addr
  C_NoWay : Addr
  C_NotSeen : Addr
  C_NotTheirs : Addr
  C_NothingLeft : Addr
  C_Own : Addr
  C_TooMany : Addr
  C_Twice : Addr
  C_Unlike : Addr
  C_HallError : Addr
structure All (K : Fg) (w : World) (mg : Str → Option Value) (a : Ad) : Prop where
  F_is_whole : Fun K "is_whole" "is_whole" st_is_whole a.f_is_whole a.d_is_whole
  m_is_whole : mg "is_whole" = some (.ref a.f_is_whole)
  b_is_whole : Binds K a.d_is_whole ["thing"] []
  F_number_of : Fun K "number_of" "number_of" st_number_of a.f_number_of a.d_number_of
  m_number_of : mg "number_of" = some (.ref a.f_number_of)
  b_number_of : Binds K a.d_number_of ["word", "most"] []
  F_showing_text : Fun K "showing_text" "showing_text" st_showing_text a.f_showing_text a.d_showing_text
  m_showing_text : mg "showing_text" = some (.ref a.f_showing_text)
  b_showing_text : Binds K a.d_showing_text ["showing"] []
  F_card_text : Fun K "card_text" "card_text" st_card_text a.f_card_text a.d_card_text
  m_card_text : mg "card_text" = some (.ref a.f_card_text)
  b_card_text : Binds K a.d_card_text ["card"] []
  F__law_bag : Fun K "_law_bag" "_law_bag" st__law_bag a.f__law_bag a.d__law_bag
  m__law_bag : mg "_law_bag" = some (.ref a.f__law_bag)
  b__law_bag : Binds K a.d__law_bag ["script", "k"] []
  F__law_take : Fun K "_law_take" "_law_take" st__law_take a.f__law_take a.d__law_take
  m__law_take : mg "_law_take" = some (.ref a.f__law_take)
  b__law_take : Binds K a.d__law_take ["bag", "many"] []
  F__law_kinds : Fun K "_law_kinds" "_law_kinds" st__law_kinds a.f__law_kinds a.d__law_kinds
  m__law_kinds : mg "_law_kinds" = some (.ref a.f__law_kinds)
  b__law_kinds : Binds K a.d__law_kinds ["e"] []
  F__law_whole : Fun K "_law_whole" "_law_whole" st__law_whole a.f__law_whole a.d__law_whole
  m__law_whole : mg "_law_whole" = some (.ref a.f__law_whole)
  b__law_whole : Binds K a.d__law_whole ["thing"] []
  F__law_number : Fun K "_law_number" "_law_number" st__law_number a.f__law_number a.d__law_number
  m__law_number : mg "_law_number" = some (.ref a.f__law_number)
  b__law_number : Binds K a.d__law_number ["word", "most"] []
  F__law_sign_text : Fun K "_law_sign_text" "_law_sign_text" st__law_sign_text a.f__law_sign_text a.d__law_sign_text
  m__law_sign_text : mg "_law_sign_text" = some (.ref a.f__law_sign_text)
  b__law_sign_text : Binds K a.d__law_sign_text ["sign"] []
  F__law_card_text : Fun K "_law_card_text" "_law_card_text" st__law_card_text a.f__law_card_text a.d__law_card_text
  m__law_card_text : mg "_law_card_text" = some (.ref a.f__law_card_text)
  b__law_card_text : Binds K a.d__law_card_text ["card"] []
  F_is_within : Fun K "is_within" "is_within" st_is_within a.f_is_within a.d_is_within
  m_is_within : mg "is_within" = some (.ref a.f_is_within)
  b_is_within : Binds K a.d_is_within ["thing", "least", "most"] []
  F_sign_text : Fun K "sign_text" "sign_text" st_sign_text a.f_sign_text a.d_sign_text
  m_sign_text : mg "sign_text" = some (.ref a.f_sign_text)
  b_sign_text : Binds K a.d_sign_text ["sign"] []
  F__law_showing : Fun K "_law_showing" "_law_showing" st__law_showing a.f__law_showing a.d__law_showing
  m__law_showing : mg "_law_showing" = some (.ref a.f__law_showing)
  b__law_showing : Binds K a.d__law_showing ["bag"] []
  F__law_is_card : Fun K "_law_is_card" "_law_is_card" st__law_is_card a.f__law_is_card a.d__law_is_card
  m__law_is_card : mg "_law_is_card" = some (.ref a.f__law_is_card)
  b__law_is_card : Binds K a.d__law_is_card ["thing"] []
  F__law_card : Fun K "_law_card" "_law_card" st__law_card a.f__law_card a.d__law_card
  m__law_card : mg "_law_card" = some (.ref a.f__law_card)
  b__law_card : Binds K a.d__law_card ["bag", "members"] []
  F__law_bent : Fun K "_law_bent" "_law_bent" st__law_bent a.f__law_bent a.d__law_bent
  m__law_bent : mg "_law_bent" = some (.ref a.f__law_bent)
  b__law_bent : Binds K a.d__law_bent ["bag", "text", "more"] []
  F_is_showing : Fun K "is_showing" "is_showing" st_is_showing a.f_is_showing a.d_is_showing
  m_is_showing : mg "is_showing" = some (.ref a.f_is_showing)
  b_is_showing : Binds K a.d_is_showing ["thing"] []
  F_is_card : Fun K "is_card" "is_card" st_is_card a.f_is_card a.d_is_card
  m_is_card : mg "is_card" = some (.ref a.f_is_card)
  b_is_card : Binds K a.d_is_card ["thing"] []
  F__law_sign : Fun K "_law_sign" "_law_sign" st__law_sign a.f__law_sign a.d__law_sign
  m__law_sign : mg "_law_sign" = some (.ref a.f__law_sign)
  b__law_sign : Binds K a.d__law_sign ["bag"] []
  F__law_read_card : Fun K "_law_read_card" "_law_read_card" st__law_read_card a.f__law_read_card a.d__law_read_card
  m__law_read_card : mg "_law_read_card" = some (.ref a.f__law_read_card)
  b__law_read_card : Binds K a.d__law_read_card ["text"] []
  F_is_sign : Fun K "is_sign" "is_sign" st_is_sign a.f_is_sign a.d_is_sign
  m_is_sign : mg "is_sign" = some (.ref a.f_is_sign)
  b_is_sign : Binds K a.d_is_sign ["thing"] []
  F_showing_in : Fun K "showing_in" "showing_in" st_showing_in a.f_showing_in a.d_showing_in
  m_showing_in : mg "showing_in" = some (.ref a.f_showing_in)
  b_showing_in : Binds K a.d_showing_in ["text"] []
  F_read_card : Fun K "read_card" "read_card" st_read_card a.f_read_card a.d_read_card
  m_read_card : mg "read_card" = some (.ref a.f_read_card)
  b_read_card : Binds K a.d_read_card ["text"] []
  F__law_read_sign : Fun K "_law_read_sign" "_law_read_sign" st__law_read_sign a.f__law_read_sign a.d__law_read_sign
  m__law_read_sign : mg "_law_read_sign" = some (.ref a.f__law_read_sign)
  b__law_read_sign : Binds K a.d__law_read_sign ["text"] []
  F_sign_in : Fun K "sign_in" "sign_in" st_sign_in a.f_sign_in a.d_sign_in
  m_sign_in : mg "sign_in" = some (.ref a.f_sign_in)
  b_sign_in : Binds K a.d_sign_in ["text"] []
  F_read_showing : Fun K "read_showing" "read_showing" st_read_showing a.f_read_showing a.d_read_showing
  m_read_showing : mg "read_showing" = some (.ref a.f_read_showing)
  b_read_showing : Binds K a.d_read_showing ["text"] []
  F_read_sign : Fun K "read_sign" "read_sign" st_read_sign a.f_read_sign a.d_read_sign
  m_read_sign : mg "read_sign" = some (.ref a.f_read_sign)
  b_read_sign : Binds K a.d_read_sign ["text"] []
  F__law_read_by : Fun K "_law_read_by" "_law_read_by" st__law_read_by a.f__law_read_by a.d__law_read_by
  m__law_read_by : mg "_law_read_by" = some (.ref a.f__law_read_by)
  b__law_read_by : Binds K a.d__law_read_by ["way", "text"] []
  F__law_right : Fun K "_law_right" "_law_right" st__law_right a.f__law_right a.d__law_right
  m__law_right : mg "_law_right" = some (.ref a.f__law_right)
  b__law_right : Binds K a.d__law_right ["text"] []
  F_law : Fun K "law" "law" st_law a.f_law a.d_law
  m_law : mg "law" = some (.ref a.f_law)
  b_law : Binds K a.d_law ["script"] []
  n_ValueError : mg "ValueError" = none
  n_all : mg "all" = none
  n_bool : mg "bool" = none
  n_int : mg "int" = none
  n_isinstance : mg "isinstance" = none
  n_len : mg "len" = none
  n_min : mg "min" = none
  n_range : mg "range" = none
  n_str : mg "str" = none
  n_tuple : mg "tuple" = none
  m_LETTERS : mg "LETTERS" = some (.ref a.t_LETTERS)
  k_LETTERS : ∀ z d, tb_LETTERS.lookup z = some d → ∃ v, KDct K w a.t_LETTERS z v ∧ ∀ F, Dq K F v d
  m_PARTS : mg "PARTS" = some (.ref a.t_PARTS)
  k_PARTS : ∀ z d, tb_PARTS.lookup z = some d → ∃ v, KDct K w a.t_PARTS z v ∧ ∀ F, Dq K F v d
  g_PARTS : (∃ es n, K.lookup a.t_PARTS = some ⟨.type "dict", none, .dict es n, #[]⟩) ∧ (a.t_PARTS == sysModules) = false ∧ ∀ z, tb_PARTS.lookup z = none → KMiss K w a.t_PARTS z
  m_LINKS : mg "LINKS" = some (.ref a.t_LINKS)
  k_LINKS : ∀ z d, tb_LINKS.lookup z = some d → ∃ v, KDct K w a.t_LINKS z v ∧ ∀ F, Dq K F v d
  g_LINKS : (∃ es n, K.lookup a.t_LINKS = some ⟨.type "dict", none, .dict es n, #[]⟩) ∧ (a.t_LINKS == sysModules) = false ∧ ∀ z, tb_LINKS.lookup z = none → KMiss K w a.t_LINKS z
  m_PALMS : mg "PALMS" = some (.ref a.t_PALMS)
  v_PALMS : KTupV K a.t_PALMS [(.str sIn), (.str sOut)]
  m_PLACES : mg "PLACES" = some (.ref a.t_PLACES)
  v_PLACES : KTupV K a.t_PLACES [(.str sChin), (.str sBrow)]
  m_MOST_MEMBERS : ∃ t, mg "MOST_MEMBERS" = some (.int 12 t)
  m_MOST_PRICE : ∃ t, mg "MOST_PRICE" = some (.int 1000000000 t)
  m_MOST_COUNT : ∃ t, mg "MOST_COUNT" = some (.int 1000000 t)
  m_SIDES : mg "SIDES" = some (.ref a.t_SIDES)
  v_SIDES : KTupV K a.t_SIDES [(.str sBought), (.str sSold)]
  m_BadNumber : mg "BadNumber" = some (.ref a.C_BadNumber)
  m_Closed : mg "Closed" = some (.ref a.C_Closed)
  m_NoBargain : mg "NoBargain" = some (.ref a.C_NoBargain)
  m_NoMember : mg "NoMember" = some (.ref a.C_NoMember)
  m_NoOffer : mg "NoOffer" = some (.ref a.C_NoOffer)
  m_NoQuarrel : mg "NoQuarrel" = some (.ref a.C_NoQuarrel)
  m_NoRow : mg "NoRow" = some (.ref a.C_NoRow)
  m_NoSign : mg "NoSign" = some (.ref a.C_NoSign)
  m_NoText : mg "NoText" = some (.ref a.C_NoText)
  m_NoWay : mg "NoWay" = some (.ref a.C_NoWay)
  m_NotSeen : mg "NotSeen" = some (.ref a.C_NotSeen)
  m_NotTheirs : mg "NotTheirs" = some (.ref a.C_NotTheirs)
  m_NothingLeft : mg "NothingLeft" = some (.ref a.C_NothingLeft)
  m_Own : mg "Own" = some (.ref a.C_Own)
  m_TooMany : mg "TooMany" = some (.ref a.C_TooMany)
  m_Twice : mg "Twice" = some (.ref a.C_Twice)
  m_Unlike : mg "Unlike" = some (.ref a.C_Unlike)
  m_HallError : mg "HallError" = some (.ref a.C_HallError)
  tb : TabOk K mg [(SM.s_BadNumber, a.C_BadNumber), (SM.s_Closed, a.C_Closed), (SM.s_NoBargain, a.C_NoBargain), (SM.s_NoMember, a.C_NoMember), (SM.s_NoOffer, a.C_NoOffer), (SM.s_NoQuarrel, a.C_NoQuarrel), (SM.s_NoRow, a.C_NoRow), (SM.s_NoSign, a.C_NoSign), (SM.s_NoText, a.C_NoText), (SM.s_NoWay, a.C_NoWay), (SM.s_NotSeen, a.C_NotSeen), (SM.s_NotTheirs, a.C_NotTheirs), (SM.s_NothingLeft, a.C_NothingLeft), (SM.s_Own, a.C_Own), (SM.s_TooMany, a.C_TooMany), (SM.s_Twice, a.C_Twice), (SM.s_Unlike, a.C_Unlike)] a.C_HallError
section
variable {P : Program} {w : World} {K : PySem.W.Frag} {mg : Str → Option Value} {base : Heap} {a : Ad}
noncomputable abbrev N_is_whole : List Str := ["thing"]
theorem sc_is_whole : FnScope N_is_whole ["thing"] (defScope st_is_whole) := ⟨rfl, rfl, rfl, by decide +kernel, rfl, by decide +kernel, by decide +kernel⟩
theorem ok_is_whole (A : All K w mg a) : FnOk P w K mg base CX0 1 a.f_is_whole a.d_is_whole ["thing"] (spV K Wx0 1 SM.F_is_whole) :=
  fn_ok (k := 0) A.F_is_whole sc_is_whole fun cdv Ar outer s H E hr => by
   have A := A
   exact (vss_one (vs_ret (vn_dat (ve_and (ve_isi (B := .int) (ve_var 0) (by rfl) A.n_isinstance (by rfl) A.n_int (by decide +kernel)) (ve_one (ve_not (ve_isi (B := .bool) (ve_var 0) (by rfl) A.n_isinstance (by rfl) A.n_bool (by decide +kernel))))))))
noncomputable abbrev N_number_of : List Str := ["word", "most", "sign"]
theorem sc_number_of : FnScope N_number_of ["word", "most"] (defScope st_number_of) := ⟨rfl, rfl, rfl, by decide +kernel, rfl, by decide +kernel, by decide +kernel⟩
theorem ok_number_of (A : All K w mg a) : FnOk P w K mg base CX0 1 a.f_number_of a.d_number_of ["word", "most"] (spV K Wx0 2 F_number_of) :=
  fn_ok (k := 0) A.F_number_of sc_number_of fun cdv Ar outer s H E hr => by
   have A := A
   exact (vss_cons (vs_if (vw_pt (vw_or (vt_cmp op_lt ok_icmp (ve_callB call_len ok_lenD (by rfl) A.n_len (by decide +kernel) (va_cons (ve_var 0) va_nil)) ve_int (nomark _)) (vw_or (vt_cmp op_gt ok_icmp (ve_callB call_len ok_lenD (by rfl) A.n_len (by decide +kernel) (va_cons (ve_var 0) va_nil)) (ve_var 1) (nomark _)) (vw_or1 (vw_pt (vw_and (vt_cmp (op_eqD hr.units) ok_eqD (ve_ix (ve_var 0) ve_int) (ve_strC e_0) (nomark _)) (vw_and1 (vt_cmp (op_neD hr.units) ok_neD (ve_var 0) (ve_strC e_0) (nomark _))))))))) (vss_one (vs_ret (vn_dat ve_non))) vss_nil)
    (vss_cons (vs_if (vt_not (vt_val (ve_callB (cr_all rfl) ok_allD (by rfl) A.n_all (by decide +kernel) (va_cons (ve_frz (vn_comp (own := [("sign", 2)]) rfl sc_number_of.nd (vi_seqT (ve_var 0)) (blkOk_by (own := [("sign", 2)]) (N := N_number_of) (sc := defScope st_number_of) (by decide +kernel)) (fun _ _ _ _ _ => (vg_name (i := 2) sc_number_of.nd)) (by decide) (fun _ _ _ _ _ => vts_nil) (fun _ _ _ _ _ => (ve_cmp (op_inA (hu65 hr)) ok_inD (ve_var 2) (ve_strC e_0123456789) rfl)))) va_nil)))) (vss_one (vs_ret (vn_dat ve_non))) vss_nil)
    (vss_one (vs_ret (vn_dat (ve_callTy cr_intT ok_intTD (by rfl) A.n_int (by decide +kernel) (va_cons (ve_var 0) va_nil)))))))
noncomputable abbrev N_showing_text : List Str := ["showing"]
theorem sc_showing_text : FnScope N_showing_text ["showing"] (defScope st_showing_text) := ⟨rfl, rfl, rfl, by decide +kernel, rfl, by decide +kernel, by decide +kernel⟩
theorem ok_showing_text (A : All K w mg a) : FnOk P w K mg base CX0 1 a.f_showing_text a.d_showing_text ["showing"] (spV K Wx0 1 F_showing_text) :=
  fn_ok (k := 0) A.F_showing_text sc_showing_text fun cdv Ar outer s H E hr => by
   have A := A
   exact (vss_one (vs_ret (vn_dat (ve_add (ve_callTy cr_strA ok_strD (by rfl) A.n_str (by decide +kernel) (va_cons (ve_ix (ve_var 0) ve_int) va_nil)) (ve_tab rfl A.m_LETTERS A.k_LETTERS (ve_ix (ve_var 0) ve_int))))))
noncomputable abbrev N_card_text : List Str := ["card", "writer", "other", "side", "price", "count", "moment", "words"]
theorem sc_card_text : FnScope N_card_text ["card"] (defScope st_card_text) := ⟨rfl, rfl, rfl, by decide +kernel, rfl, by decide +kernel, by decide +kernel⟩
theorem ok_card_text (A : All K w mg a) : FnOk P w K mg base CX0 1 a.f_card_text a.d_card_text ["card"] (spV K Wx0 1 F_card_text) :=
  fn_ok (k := 0) A.F_card_text sc_card_text fun cdv Ar outer s H E hr => by
   have A := A
   exact (vss_cons (vs_asg (ve_var 0) (vg_tup rfl (vgs_cons (vg_name (i := 1) sc_card_text.nd) (vgs_cons (vg_name (i := 2) sc_card_text.nd) (vgs_cons (vg_name (i := 3) sc_card_text.nd) (vgs_cons (vg_name (i := 4) sc_card_text.nd) (vgs_cons (vg_name (i := 5) sc_card_text.nd) (vgs_cons (vg_name (i := 6) sc_card_text.nd) vgs_nil))))))))
    (vss_cons (vs_set (i := 7) sc_card_text.nd (ve_frz (vn_lst (va_cons (ve_callTy cr_strA ok_strD (by rfl) A.n_str (by decide +kernel) (va_cons (ve_var 1) va_nil)) (va_cons (ve_var 3) (va_cons (ve_callTy cr_strA ok_strD (by rfl) A.n_str (by decide +kernel) (va_cons (ve_var 5) va_nil)) (va_cons (ve_strC e_at) (va_cons (ve_callTy cr_strA ok_strD (by rfl) A.n_str (by decide +kernel) (va_cons (ve_var 4) va_nil)) (va_cons (ve_tab rfl A.m_LINKS A.k_LINKS (ve_var 3)) (va_cons (ve_callTy cr_strA ok_strD (by rfl) A.n_str (by decide +kernel) (va_cons (ve_var 2) va_nil)) (va_cons (ve_strC eIn) (va_cons (ve_callTy cr_strA ok_strD (by rfl) A.n_str (by decide +kernel) (va_cons (ve_var 6) va_nil)) va_nil))))))))))))
    (vss_one (vs_ret (vn_dat (ve_join (ve_strC e_x20) (ve_var 7)))))))
noncomputable abbrev N__law_bag : List Str := ["script", "k", "cell"]
theorem sc__law_bag : FnScope N__law_bag ["script", "k"] (defScope st__law_bag) := ⟨rfl, rfl, rfl, by decide +kernel, rfl, by decide +kernel, by decide +kernel⟩
theorem ok__law_bag (A : All K w mg a) : FnOk P w K mg base CX0 1 a.f__law_bag a.d__law_bag ["script", "k"] (spV K Wx0 2 fBag) :=
  fn_ok (k := 0) A.F__law_bag sc__law_bag fun cdv Ar outer s H E hr => by
   have A := A
   exact (vss_cons (vs_set (i := 2) sc__law_bag.nd ve_int)
    (vss_cons (vs_if (vt_cmp op_lt ok_icmp (ve_var 1) (ve_callB call_len ok_lenD (by rfl) A.n_len (by decide +kernel) (va_cons (ve_var 0) va_nil)) (nomark _)) (vss_one (vs_set (i := 2) sc__law_bag.nd (ve_mod (ve_ix (ve_var 0) (ve_var 1)) (ve_mul (ve_pow ve_int ve_int) (ve_pow ve_int ve_int))))) vss_nil)
    (vss_cons (vs_if (vt_cmp op_lt ok_icmp (ve_var 2) (ve_pow ve_int ve_int) (nomark _)) (vss_one (vs_ret (vn_lst (va_cons ve_int (va_cons (ve_add ve_int (ve_mod (ve_add (ve_mul (ve_var 2) ve_int) (ve_mul ve_int (ve_var 1))) ve_int)) va_nil))))) vss_nil)
    (vss_one (vs_ret (vn_lst (va_cons (ve_var 2) (va_cons (ve_add ve_int (ve_mod (ve_add (ve_var 2) (ve_var 1)) ve_int)) va_nil))))))))
noncomputable abbrev N__law_take : List Str := ["bag", "many", "found"]
theorem sc__law_take : FnScope N__law_take ["bag", "many"] (defScope st__law_take) := ⟨rfl, rfl, rfl, by decide +kernel, rfl, by decide +kernel, by decide +kernel⟩
theorem ok__law_take (A : All K w mg a) : FnOk P w K mg base CX0 1 a.f__law_take a.d__law_take ["bag", "many"] (spV K Wx0 2 fTake) :=
  fn_ok (k := 0) A.F__law_take sc__law_take fun cdv Ar outer s H E hr => by
   have A := A
   exact (vss_cons (vs_if (vt_cmp op_gt ok_icmp (ve_ix (ve_var 0) ve_int) ve_int (nomark _)) (vss_cons (vs_set (i := 2) sc__law_take.nd (ve_mod (ve_ix (ve_var 0) ve_int) (ve_var 1)))
    (vss_cons (vs_setIx (ve_fdiv (ve_ix (ve_var 0) ve_int) (ve_var 1)) (vp_var 0) ve_int)
    (vss_one (vs_retV 2)))) vss_nil)
    (vss_cons (vs_setIx (ve_mod (ve_mul (ve_ix (ve_var 0) ve_int) ve_int) ve_int) (vp_var 0) ve_int)
    (vss_one (vs_ret (vn_dat (ve_mod (ve_fdiv (ve_mod (ve_mul (ve_ix (ve_var 0) ve_int) (ve_ix (ve_var 0) ve_int)) ve_int) ve_int) (ve_var 1)))))))
noncomputable abbrev N__law_kinds : List Str := ["e", "some", "words", "k"]
theorem sc__law_kinds : FnScope N__law_kinds ["e"] (defScope st__law_kinds) := ⟨rfl, rfl, rfl, by decide +kernel, rfl, by decide +kernel, by decide +kernel⟩
theorem ok__law_kinds (A : All K w mg a) : VLH.FnE P w K mg base 1 a.f__law_kinds a.d__law_kinds ["e"] (spK K mg kNames) :=
  fn_kinds (k := 0) A.F__law_kinds sc__law_kinds A.tb rfl fun c D hc hm ex ve cdv Ar outer s H E p hot hz hfl => by
   have A := A
   exact (vss_cons (vs_set (i := 1) sc__law_kinds.nd (ve_frz (vn_lst (va_cons (ve_isE 0 ex hz hfl List.mem_cons_self (A.tb.kit hc hm (List.mem_of_getElem? (i := 0) rfl)) A.n_isinstance (by rfl) (pe_glob (v := .ref a.C_BadNumber) (by rfl) A.m_BadNumber rfl) (fun _ h => h)) (va_cons (ve_isE 0 ex hz hfl List.mem_cons_self (A.tb.kit hc hm (List.mem_of_getElem? (i := 1) rfl)) A.n_isinstance (by rfl) (pe_glob (v := .ref a.C_Closed) (by rfl) A.m_Closed rfl) (fun _ h => h)) (va_cons (ve_isE 0 ex hz hfl List.mem_cons_self (A.tb.kit hc hm (List.mem_of_getElem? (i := 2) rfl)) A.n_isinstance (by rfl) (pe_glob (v := .ref a.C_NoBargain) (by rfl) A.m_NoBargain rfl) (fun _ h => h)) (va_cons (ve_isE 0 ex hz hfl List.mem_cons_self (A.tb.kit hc hm (List.mem_of_getElem? (i := 3) rfl)) A.n_isinstance (by rfl) (pe_glob (v := .ref a.C_NoMember) (by rfl) A.m_NoMember rfl) (fun _ h => h)) va_nil)))))))
    (vss_cons (vs_set (i := 1) sc__law_kinds.nd (ve_add (ve_var 1) (ve_frz (vn_lst (va_cons (ve_isE 0 ex hz hfl List.mem_cons_self (A.tb.kit hc hm (List.mem_of_getElem? (i := 4) rfl)) A.n_isinstance (by rfl) (pe_glob (v := .ref a.C_NoOffer) (by rfl) A.m_NoOffer rfl) (fun _ h => h)) (va_cons (ve_isE 0 ex hz hfl List.mem_cons_self (A.tb.kit hc hm (List.mem_of_getElem? (i := 5) rfl)) A.n_isinstance (by rfl) (pe_glob (v := .ref a.C_NoQuarrel) (by rfl) A.m_NoQuarrel rfl) (fun _ h => h)) (va_cons (ve_isE 0 ex hz hfl List.mem_cons_self (A.tb.kit hc hm (List.mem_of_getElem? (i := 6) rfl)) A.n_isinstance (by rfl) (pe_glob (v := .ref a.C_NoRow) (by rfl) A.m_NoRow rfl) (fun _ h => h)) (va_cons (ve_isE 0 ex hz hfl List.mem_cons_self (A.tb.kit hc hm (List.mem_of_getElem? (i := 7) rfl)) A.n_isinstance (by rfl) (pe_glob (v := .ref a.C_NoSign) (by rfl) A.m_NoSign rfl) (fun _ h => h)) va_nil))))))))
    (vss_cons (vs_set (i := 1) sc__law_kinds.nd (ve_add (ve_var 1) (ve_frz (vn_lst (va_cons (ve_isE 0 ex hz hfl List.mem_cons_self (A.tb.kit hc hm (List.mem_of_getElem? (i := 8) rfl)) A.n_isinstance (by rfl) (pe_glob (v := .ref a.C_NoText) (by rfl) A.m_NoText rfl) (fun _ h => h)) (va_cons (ve_isE 0 ex hz hfl List.mem_cons_self (A.tb.kit hc hm (List.mem_of_getElem? (i := 9) rfl)) A.n_isinstance (by rfl) (pe_glob (v := .ref a.C_NoWay) (by rfl) A.m_NoWay rfl) (fun _ h => h)) (va_cons (ve_isE 0 ex hz hfl List.mem_cons_self (A.tb.kit hc hm (List.mem_of_getElem? (i := 10) rfl)) A.n_isinstance (by rfl) (pe_glob (v := .ref a.C_NotSeen) (by rfl) A.m_NotSeen rfl) (fun _ h => h)) (va_cons (ve_isE 0 ex hz hfl List.mem_cons_self (A.tb.kit hc hm (List.mem_of_getElem? (i := 11) rfl)) A.n_isinstance (by rfl) (pe_glob (v := .ref a.C_NotTheirs) (by rfl) A.m_NotTheirs rfl) (fun _ h => h)) va_nil))))))))
    (vss_cons (vs_set (i := 1) sc__law_kinds.nd (ve_add (ve_var 1) (ve_frz (vn_lst (va_cons (ve_isE 0 ex hz hfl List.mem_cons_self (A.tb.kit hc hm (List.mem_of_getElem? (i := 12) rfl)) A.n_isinstance (by rfl) (pe_glob (v := .ref a.C_NothingLeft) (by rfl) A.m_NothingLeft rfl) (fun _ h => h)) (va_cons (ve_isE 0 ex hz hfl List.mem_cons_self (A.tb.kit hc hm (List.mem_of_getElem? (i := 13) rfl)) A.n_isinstance (by rfl) (pe_glob (v := .ref a.C_Own) (by rfl) A.m_Own rfl) (fun _ h => h)) (va_cons (ve_isE 0 ex hz hfl List.mem_cons_self (A.tb.kit hc hm (List.mem_of_getElem? (i := 14) rfl)) A.n_isinstance (by rfl) (pe_glob (v := .ref a.C_TooMany) (by rfl) A.m_TooMany rfl) (fun _ h => h)) (va_cons (ve_isE 0 ex hz hfl List.mem_cons_self (A.tb.kit hc hm (List.mem_of_getElem? (i := 15) rfl)) A.n_isinstance (by rfl) (pe_glob (v := .ref a.C_Twice) (by rfl) A.m_Twice rfl) (fun _ h => h)) va_nil))))))))
    (vss_cons (vs_set (i := 1) sc__law_kinds.nd (ve_add (ve_var 1) (ve_frz (vn_lst (va_cons (ve_isE 0 ex hz hfl List.mem_cons_self (A.tb.kit hc hm (List.mem_of_getElem? (i := 16) rfl)) A.n_isinstance (by rfl) (pe_glob (v := .ref a.C_Unlike) (by rfl) A.m_Unlike rfl) (fun _ h => h)) (va_cons (ve_isE 0 ex hz hfl List.mem_cons_self ve A.n_isinstance (by rfl) (pe_bltn (v := .ty "ValueError") (by rfl) A.n_ValueError (by decide +kernel) rfl) (fun _ h => h)) va_nil))))))
    (vss_cons (vs_set (i := 2) sc__law_kinds.nd (ve_frz (vn_lst (va_cons (ve_strC e_BadNumber) (va_cons (ve_strC e_Closed) (va_cons (ve_strC e_NoBargain) (va_cons (ve_strC e_NoMember) (va_cons (ve_strC e_NoOffer) (va_cons (ve_strC e_NoQuarrel) (va_cons (ve_strC e_NoRow) (va_cons (ve_strC e_NoSign) (va_cons (ve_strC e_NoText) va_nil))))))))))))
    (vss_cons (vs_set (i := 2) sc__law_kinds.nd (ve_add (ve_var 2) (ve_frz (vn_lst (va_cons (ve_strC e_NoWay) (va_cons (ve_strC e_NotSeen) (va_cons (ve_strC e_NotTheirs) (va_cons (ve_strC e_NothingLeft) (va_cons (ve_strC e_Own) (va_cons (ve_strC e_TooMany) (va_cons (ve_strC e_Twice) (va_cons (ve_strC e_Unlike) (va_cons (ve_strC e_x2b) va_nil)))))))))))))
    (vss_one (vs_ret (vn_dat (ve_join (ve_strC SM.e_x) (ve_frz (vn_compH (own := [("k", 3)]) ⟨p, ⟨hot.1, hot.2⟩, List.mem_cons_self⟩ sc__law_kinds.nd (vih_range1 (by rfl) A.n_range (va_cons ve_int va_nil)) (blkOk_by (own := [("k", 3)]) (N := N__law_kinds) (sc := defScope st__law_kinds) (by decide +kernel)) (fun _ _ _ _ _ => (vg_name (i := 3) sc__law_kinds.nd)) (by decide) (fun _ _ _ _ _ => (vts_one (vt_val (ve_ix (ve_var 1) (ve_var 3))))) (fun _ _ _ _ _ => (ve_ix (ve_var 2) (ve_var 3))))))))))))))))
noncomputable abbrev N__law_whole : List Str := ["thing"]
theorem sc__law_whole : FnScope N__law_whole ["thing"] (defScope st__law_whole) := ⟨rfl, rfl, rfl, by decide +kernel, rfl, by decide +kernel, by decide +kernel⟩
theorem ok__law_whole (A : All K w mg a) : FnOk P w K mg base CX0 1 a.f__law_whole a.d__law_whole ["thing"] (spV K Wx0 1 SM.F__law_whole) :=
  fn_ok (k := 0) A.F__law_whole sc__law_whole fun cdv Ar outer s H E hr => by
   have A := A
   exact (vss_one (vs_ret (vn_dat (ve_and (ve_isi (B := .int) (ve_var 0) (by rfl) A.n_isinstance (by rfl) A.n_int (by decide +kernel)) (ve_one (ve_not (ve_isi (B := .bool) (ve_var 0) (by rfl) A.n_isinstance (by rfl) A.n_bool (by decide +kernel))))))))
noncomputable abbrev N__law_number : List Str := ["word", "most", "odd", "sign"]
theorem sc__law_number : FnScope N__law_number ["word", "most"] (defScope st__law_number) := ⟨rfl, rfl, rfl, by decide +kernel, rfl, by decide +kernel, by decide +kernel⟩
theorem ok__law_number (A : All K w mg a) : FnOk P w K mg base CX0 1 a.f__law_number a.d__law_number ["word", "most"] (spV K Wx0 2 F__law_number) :=
  fn_ok (k := 0) A.F__law_number sc__law_number fun cdv Ar outer s H E hr => by
   have A := A
   exact (vss_cons (vs_setCompV (i := 2) (own := [("sign", 3)]) rfl sc__law_number.nd (vi_seqT (ve_var 0)) (blkOk_by (own := [("sign", 3)]) (N := N__law_number) (sc := defScope st__law_number) (by decide +kernel)) (fun _ _ _ _ _ => (vg_name (i := 3) sc__law_number.nd)) (by decide) (fun _ _ _ _ _ => (vts_one (vt_cmp (op_notInA (hu65 hr)) ok_notInD (ve_var 3) (ve_strC e_0123456789) rfl))) (fun _ _ _ _ _ => (ve_var 3)))
    (vss_cons (vs_if (vw_pt (vw_or (vt_cmp op_lt ok_icmp (ve_callB call_len ok_lenD (by rfl) A.n_len (by decide +kernel) (va_cons (ve_var 0) va_nil)) ve_int (nomark _)) (vw_or (vt_cmp op_gt ok_icmp (ve_callB call_len ok_lenD (by rfl) A.n_len (by decide +kernel) (va_cons (ve_var 0) va_nil)) (ve_var 1) (nomark _)) (vw_or1 (vt_cmp (op_neD hr.units) ok_neD (ve_var 2) (ve_frz (vn_lst va_nil)) (nomark _)))))) (vss_one (vs_ret (vn_dat ve_non))) vss_nil)
    (vss_one (vs_ret (vn_dat (ve_if (vw_pt (vw_and (vt_cmp (op_eqD hr.units) ok_eqD (ve_ix (ve_var 0) ve_int) (ve_strC e_0) (nomark _)) (vw_and1 (vt_cmp (op_neD hr.units) ok_neD (ve_var 0) (ve_strC e_0) (nomark _))))) ve_non (ve_callTy cr_intT ok_intTD (by rfl) A.n_int (by decide +kernel) (va_cons (ve_var 0) va_nil))))))))
noncomputable abbrev N__law_sign_text : List Str := ["sign", "palm", "price", "figure", "place"]
theorem sc__law_sign_text : FnScope N__law_sign_text ["sign"] (defScope st__law_sign_text) := ⟨rfl, rfl, rfl, by decide +kernel, rfl, by decide +kernel, by decide +kernel⟩
theorem ok__law_sign_text (A : All K w mg a) : FnOk P w K mg base CX0 1 a.f__law_sign_text a.d__law_sign_text ["sign"] (spV K Wx0 1 F__law_sign_text) :=
  fn_ok (k := 0) A.F__law_sign_text sc__law_sign_text fun cdv Ar outer s H E hr => by
   have A := A
   exact (vss_cons (vs_asg (ve_var 0) (vg_tup rfl (vgs_cons (vg_name (i := 1) sc__law_sign_text.nd) (vgs_cons (vg_name (i := 2) sc__law_sign_text.nd) (vgs_cons (vg_name (i := 3) sc__law_sign_text.nd) (vgs_cons (vg_name (i := 4) sc__law_sign_text.nd) vgs_nil))))))
    (vss_one (vs_ret (vn_dat (ve_add (ve_add (ve_add (ve_add (ve_ix (ve_frz (vn_lst (va_cons (ve_strC e_s) (va_cons (ve_strC e_b) va_nil)))) (ve_callTy call_int1 ok_intD (by rfl) A.n_int (by decide +kernel) (va_cons (ve_cmp (op_eqD hr.units) ok_eqD (ve_var 1) (ve_strC eIn) (nomark _)) va_nil))) (ve_callTy cr_strA ok_strD (by rfl) A.n_str (by decide +kernel) (va_cons (ve_var 2) va_nil))) (ve_strC e_x78)) (ve_callTy cr_strA ok_strD (by rfl) A.n_str (by decide +kernel) (va_cons (ve_var 3) va_nil))) (ve_ix (ve_frz (vn_lst (va_cons (ve_strC e_w) (va_cons (ve_strC e_c) va_nil)))) (ve_callTy call_int1 ok_intD (by rfl) A.n_int (by decide +kernel) (va_cons (ve_cmp (op_eqD hr.units) ok_eqD (ve_var 4) (ve_strC eChin) (nomark _)) va_nil))))))))
noncomputable abbrev N__law_card_text : List Str := ["card", "writer", "other", "side", "price", "count", "moment", "words"]
theorem sc__law_card_text : FnScope N__law_card_text ["card"] (defScope st__law_card_text) := ⟨rfl, rfl, rfl, by decide +kernel, rfl, by decide +kernel, by decide +kernel⟩
theorem ok__law_card_text (A : All K w mg a) : FnOk P w K mg base CX0 1 a.f__law_card_text a.d__law_card_text ["card"] (spV K Wx0 1 F__law_card_text) :=
  fn_ok (k := 0) A.F__law_card_text sc__law_card_text fun cdv Ar outer s H E hr => by
   have A := A
   exact (vss_cons (vs_asg (ve_var 0) (vg_tup rfl (vgs_cons (vg_name (i := 1) sc__law_card_text.nd) (vgs_cons (vg_name (i := 2) sc__law_card_text.nd) (vgs_cons (vg_name (i := 3) sc__law_card_text.nd) (vgs_cons (vg_name (i := 4) sc__law_card_text.nd) (vgs_cons (vg_name (i := 5) sc__law_card_text.nd) (vgs_cons (vg_name (i := 6) sc__law_card_text.nd) vgs_nil))))))))
    (vss_cons (vs_set (i := 7) sc__law_card_text.nd (ve_frz (vn_lst (va_cons (ve_callTy cr_strA ok_strD (by rfl) A.n_str (by decide +kernel) (va_cons (ve_var 1) va_nil)) (va_cons (ve_var 3) (va_cons (ve_callTy cr_strA ok_strD (by rfl) A.n_str (by decide +kernel) (va_cons (ve_var 5) va_nil)) (va_cons (ve_strC e_at) (va_cons (ve_callTy cr_strA ok_strD (by rfl) A.n_str (by decide +kernel) (va_cons (ve_var 4) va_nil)) (va_cons (ve_ix (ve_frz (vn_lst (va_cons (ve_strC e_from) (va_cons (ve_strC e_to) va_nil)))) (ve_callTy call_int1 ok_intD (by rfl) A.n_int (by decide +kernel) (va_cons (ve_cmp (op_eqD hr.units) ok_eqD (ve_var 3) (ve_strC eSold) (nomark _)) va_nil))) va_nil)))))))))
    (vss_one (vs_ret (vn_dat (ve_join (ve_strC e_x20) (ve_add (ve_var 7) (ve_frz (vn_lst (va_cons (ve_callTy cr_strA ok_strD (by rfl) A.n_str (by decide +kernel) (va_cons (ve_var 2) va_nil)) (va_cons (ve_strC eIn) (va_cons (ve_callTy cr_strA ok_strD (by rfl) A.n_str (by decide +kernel) (va_cons (ve_var 6) va_nil)) va_nil))))))))))))
noncomputable abbrev N_is_within : List Str := ["thing", "least", "most"]
theorem sc_is_within : FnScope N_is_within ["thing", "least", "most"] (defScope st_is_within) := ⟨rfl, rfl, rfl, by decide +kernel, rfl, by decide +kernel, by decide +kernel⟩
theorem ok_is_within (A : All K w mg a) : FnOk P w K mg base CX0 2 a.f_is_within a.d_is_within ["thing", "least", "most"] (spV K Wx0 3 SM.F_is_within) :=
  fn_ok (k := 1) A.F_is_within sc_is_within fun cdv Ar outer s H E hr => by
   have A := A
   exact (vss_one (vs_ret (vn_dat (ve_and (ve_frz (vn_call (Ts := [0]) (ok_is_whole A) (hr.mono (by decide)) rfl A.m_is_whole A.F_is_whole.kp A.b_is_whole (va_cons (ve_var 0) va_nil))) (ve_one (ve_chain op_le op_le ok_icmp ok_icmp (ve_var 1) (ve_var 0) (ve_var 2)))))))
noncomputable abbrev N_sign_text : List Str := ["sign"]
theorem sc_sign_text : FnScope N_sign_text ["sign"] (defScope st_sign_text) := ⟨rfl, rfl, rfl, by decide +kernel, rfl, by decide +kernel, by decide +kernel⟩
theorem ok_sign_text (A : All K w mg a) : FnOk P w K mg base CX0 2 a.f_sign_text a.d_sign_text ["sign"] (spV K Wx0 1 F_sign_text) :=
  fn_ok (k := 1) A.F_sign_text sc_sign_text fun cdv Ar outer s H E hr => by
   have A := A
   exact (vss_one (vs_ret (vn_dat (ve_add (ve_add (ve_add (ve_tab rfl A.m_LETTERS A.k_LETTERS (ve_ix (ve_var 0) ve_int)) (ve_callTy cr_strA ok_strD (by rfl) A.n_str (by decide +kernel) (va_cons (ve_ix (ve_var 0) ve_int) va_nil))) (ve_strC e_x78)) (ve_frz (vn_call (Ts := []) (ok_showing_text A) (hr.mono (by decide)) rfl A.m_showing_text A.F_showing_text.kp A.b_showing_text (va_cons (ve_cut (ve_var 0) (vo_some ve_int) vo_none) va_nil)))))))
noncomputable abbrev N__law_showing : List Str := ["bag"]
theorem sc__law_showing : FnScope N__law_showing ["bag"] (defScope st__law_showing) := ⟨rfl, rfl, rfl, by decide +kernel, rfl, by decide +kernel, by decide +kernel⟩
theorem ok__law_showing (A : All K w mg a) : FnOk P w K mg base CX0 2 a.f__law_showing a.d__law_showing ["bag"] (spV K Wx0 1 fShowing) :=
  fn_ok (k := 1) A.F__law_showing sc__law_showing fun cdv Ar outer s H E hr => by
   have A := A
   exact (vss_one (vs_ret (vn_dat (ve_tup (va_cons (ve_add ve_int (ve_frz (vn_call (Ts := [0]) (ok__law_take A) (hr.mono (by decide)) rfl A.m__law_take A.F__law_take.kp A.b__law_take (va_cons (ve_var 0) (va_cons ve_int va_nil))))) (va_cons (ve_ix (ve_frz (vn_lst (va_cons (ve_strC eChin) (va_cons (ve_strC eChin) (va_cons (ve_strC eBrow) va_nil))))) (ve_frz (vn_call (Ts := [0]) (ok__law_take A) (hr.mono (by decide)) rfl A.m__law_take A.F__law_take.kp A.b__law_take (va_cons (ve_var 0) (va_cons ve_int va_nil))))) va_nil))))))
noncomputable abbrev N__law_is_card : List Str := ["thing", "part", "writer", "other", "side", "price", "count", "moment"]
theorem sc__law_is_card : FnScope N__law_is_card ["thing"] (defScope st__law_is_card) := ⟨rfl, rfl, rfl, by decide +kernel, rfl, by decide +kernel, by decide +kernel⟩
theorem ok__law_is_card (A : All K w mg a) : FnOk P w K mg base CX0 2 a.f__law_is_card a.d__law_is_card ["thing"] (spV K Wx0 1 SM.F__law_is_card) :=
  fn_ok (k := 1) A.F__law_is_card sc__law_is_card fun cdv Ar outer s H E hr => by
   have A := A
   exact (vss_cons (vs_if (vw_pt (vw_or (vt_not (vt_val (ve_isi (B := .tuple) (ve_var 0) (by rfl) A.n_isinstance (by rfl) A.n_tuple (by decide +kernel)))) (vw_or1 (vt_cmp (op_neD hr.units) ok_neD (ve_callB call_len ok_lenD (by rfl) A.n_len (by decide +kernel) (va_cons (ve_var 0) va_nil)) ve_int (nomark _))))) (vss_one (vs_ret (vn_dat ve_bl))) vss_nil)
    (vss_cons (vs_if (vw_pt (vw_or (vt_cmp (op_neD hr.units) ok_neD (ve_frz (vn_comp (own := [("part", 1)]) rfl sc__law_is_card.nd (vi_seq (ve_add (ve_cut (ve_var 0) vo_none (vo_some ve_int)) (ve_cut (ve_var 0) (vo_some ve_int) vo_none))) (blkOk_by (own := [("part", 1)]) (N := N__law_is_card) (sc := defScope st__law_is_card) (by decide +kernel)) (fun _ _ _ _ _ => (vg_name (i := 1) sc__law_is_card.nd)) (by decide) (fun _ _ _ _ _ => (vts_one (vt_not (vt_val (ve_frz (vn_call (Ts := [1]) (ok__law_whole A) (hr.mono (by decide)) rfl A.m__law_whole A.F__law_whole.kp A.b__law_whole (va_cons (ve_var 1) va_nil))))))) (fun _ _ _ _ _ => (ve_var 1)))) (ve_frz (vn_lst va_nil)) (nomark _)) (vw_or1 (vt_not (vt_val (ve_isi (B := .str) (ve_ix (ve_var 0) ve_int) (by rfl) A.n_isinstance (by rfl) A.n_str (by decide +kernel))))))) (vss_one (vs_ret (vn_dat ve_bl))) vss_nil)
    (vss_cons (vs_asg (ve_var 0) (vg_tup rfl (vgs_cons (vg_name (i := 2) sc__law_is_card.nd) (vgs_cons (vg_name (i := 3) sc__law_is_card.nd) (vgs_cons (vg_name (i := 4) sc__law_is_card.nd) (vgs_cons (vg_name (i := 5) sc__law_is_card.nd) (vgs_cons (vg_name (i := 6) sc__law_is_card.nd) (vgs_cons (vg_name (i := 7) sc__law_is_card.nd) vgs_nil))))))))
    (vss_cons (vs_if (vw_pt (vw_or (vt_not (vt_chain op_le op_le ok_icmp ok_icmp ve_int (ve_var 2) ve_int)) (vw_or (vt_not (vt_chain op_le op_le ok_icmp ok_icmp ve_int (ve_var 3) ve_int)) (vw_or (vt_cmp (op_eqD hr.units) ok_eqD (ve_var 2) (ve_var 3) (nomark _)) (vw_or1 (vt_cmp (op_notInA (hu65 hr)) ok_notInD (ve_var 4) (ve_frz (vn_lst (va_cons (ve_strC eBought) (va_cons (ve_strC eSold) va_nil)))) rfl)))))) (vss_one (vs_ret (vn_dat ve_bl))) vss_nil)
    (vss_one (vs_ret (vn_dat (ve_and (ve_chain op_le op_le ok_icmp ok_icmp ve_int (ve_var 5) (ve_pow ve_int ve_int)) (ve_and (ve_chain op_le op_le ok_icmp ok_icmp ve_int (ve_var 6) (ve_pow ve_int ve_int)) (ve_one (ve_chain op_le op_le ok_icmp ok_icmp ve_int (ve_var 7) (ve_pow ve_int ve_int))))))))))))
noncomputable abbrev N__law_card : List Str := ["bag", "members", "writer", "other", "price", "count", "moment"]
theorem sc__law_card : FnScope N__law_card ["bag", "members"] (defScope st__law_card) := ⟨rfl, rfl, rfl, by decide +kernel, rfl, by decide +kernel, by decide +kernel⟩
theorem ok__law_card (A : All K w mg a) : FnOk P w K mg base CX0 2 a.f__law_card a.d__law_card ["bag", "members"] (spV K Wx0 2 fCard) :=
  fn_ok (k := 1) A.F__law_card sc__law_card fun cdv Ar outer s H E hr => by
   have A := A
   exact (vss_cons (vs_set (i := 2) sc__law_card.nd (ve_frz (vn_call (Ts := [0, 1]) (ok__law_take A) (hr.mono (by decide)) rfl A.m__law_take A.F__law_take.kp A.b__law_take (va_cons (ve_var 0) (va_cons (ve_var 1) va_nil)))))
    (vss_cons (vs_set (i := 3) sc__law_card.nd (ve_mod (ve_add (ve_add (ve_var 2) ve_int) (ve_frz (vn_call (Ts := [0]) (ok__law_take A) (hr.mono (by decide)) rfl A.m__law_take A.F__law_take.kp A.b__law_take (va_cons (ve_var 0) (va_cons (ve_sub (ve_var 1) ve_int) va_nil))))) (ve_var 1)))
    (vss_cons (vs_set (i := 4) sc__law_card.nd (ve_ix (ve_frz (vn_lst (va_cons (ve_add ve_int (ve_frz (vn_call (Ts := [0]) (ok__law_take A) (hr.mono (by decide)) rfl A.m__law_take A.F__law_take.kp A.b__law_take (va_cons (ve_var 0) (va_cons ve_int va_nil))))) (va_cons (ve_frz (vn_call (Ts := [0]) (ok__law_take A) (hr.mono (by decide)) rfl A.m__law_take A.F__law_take.kp A.b__law_take (va_cons (ve_var 0) (va_cons (ve_add (ve_pow ve_int ve_int) ve_int) va_nil)))) (va_cons (ve_pow ve_int ve_int) va_nil))))) (ve_ix (ve_frz (vn_lst (va_cons ve_int (va_cons ve_int (va_cons ve_int (va_cons ve_int (va_cons ve_int (va_cons ve_int va_nil)))))))) (ve_frz (vn_call (Ts := [0]) (ok__law_take A) (hr.mono (by decide)) rfl A.m__law_take A.F__law_take.kp A.b__law_take (va_cons (ve_var 0) (va_cons ve_int va_nil)))))))
    (vss_cons (vs_set (i := 5) sc__law_card.nd (ve_ix (ve_frz (vn_lst (va_cons (ve_add ve_int (ve_frz (vn_call (Ts := [0]) (ok__law_take A) (hr.mono (by decide)) rfl A.m__law_take A.F__law_take.kp A.b__law_take (va_cons (ve_var 0) (va_cons ve_int va_nil))))) (va_cons (ve_add ve_int (ve_frz (vn_call (Ts := [0]) (ok__law_take A) (hr.mono (by decide)) rfl A.m__law_take A.F__law_take.kp A.b__law_take (va_cons (ve_var 0) (va_cons (ve_pow ve_int ve_int) va_nil))))) (va_cons (ve_pow ve_int ve_int) va_nil))))) (ve_ix (ve_frz (vn_lst (va_cons ve_int (va_cons ve_int (va_cons ve_int (va_cons ve_int (va_cons ve_int (va_cons ve_int va_nil)))))))) (ve_frz (vn_call (Ts := [0]) (ok__law_take A) (hr.mono (by decide)) rfl A.m__law_take A.F__law_take.kp A.b__law_take (va_cons (ve_var 0) (va_cons ve_int va_nil)))))))
    (vss_cons (vs_set (i := 6) sc__law_card.nd (ve_ix (ve_frz (vn_lst (va_cons (ve_frz (vn_call (Ts := [0]) (ok__law_take A) (hr.mono (by decide)) rfl A.m__law_take A.F__law_take.kp A.b__law_take (va_cons (ve_var 0) (va_cons ve_int va_nil)))) (va_cons (ve_frz (vn_call (Ts := [0]) (ok__law_take A) (hr.mono (by decide)) rfl A.m__law_take A.F__law_take.kp A.b__law_take (va_cons (ve_var 0) (va_cons (ve_add (ve_pow ve_int ve_int) ve_int) va_nil)))) va_nil)))) (ve_callTy call_int1 ok_intD (by rfl) A.n_int (by decide +kernel) (va_cons (ve_cmp (op_eqD hr.units) ok_eqD (ve_frz (vn_call (Ts := [0]) (ok__law_take A) (hr.mono (by decide)) rfl A.m__law_take A.F__law_take.kp A.b__law_take (va_cons (ve_var 0) (va_cons ve_int va_nil)))) ve_int (nomark _)) va_nil))))
    (vss_one (vs_ret (vn_dat (ve_tup (va_cons (ve_var 2) (va_cons (ve_var 3) (va_cons (ve_ix (ve_frz (vn_lst (va_cons (ve_strC eBought) (va_cons (ve_strC eSold) va_nil)))) (ve_frz (vn_call (Ts := [0]) (ok__law_take A) (hr.mono (by decide)) rfl A.m__law_take A.F__law_take.kp A.b__law_take (va_cons (ve_var 0) (va_cons ve_int va_nil))))) (va_cons (ve_var 4) (va_cons (ve_var 5) (va_cons (ve_var 6) va_nil)))))))))))))))
noncomputable abbrev N__law_bent : List Str := ["bag", "text", "more", "signs", "sign", "at", "way", "words", "some"]
theorem sc__law_bent : FnScope N__law_bent ["bag", "text", "more"] (defScope st__law_bent) := ⟨rfl, rfl, rfl, by decide +kernel, rfl, by decide +kernel, by decide +kernel⟩
theorem ok__law_bent (A : All K w mg a) : FnOk P w K mg base CX0 2 a.f__law_bent a.d__law_bent ["bag", "text", "more"] (spV K Wx0 3 F__law_bent) :=
  fn_ok (k := 1) A.F__law_bent sc__law_bent fun cdv Ar outer s H E hr => by
   have A := A
   exact (vss_cons (vs_set (i := 3) sc__law_bent.nd (ve_strC e_x2021222324262728292a2b2c2d2e2f303132333435363738393a3b3c3d3e3f404142434445464748494a4b4c4d4e4f505152535455565758595a5b5c5d5e5f606162636465666768696a6b6c6d6e6f707172737475767778797a7b7c7d7e0a))
    (vss_cons (vs_set (i := 4) sc__law_bent.nd (ve_ix (ve_frz (vn_lst (va_cons (ve_ix (ve_var 3) (ve_frz (vn_call (Ts := [0]) (ok__law_take A) (hr.mono (by decide)) rfl A.m__law_take A.F__law_take.kp A.b__law_take (va_cons (ve_var 0) (va_cons (ve_callB call_len ok_lenD (by rfl) A.n_len (by decide +kernel) (va_cons (ve_var 3) va_nil)) va_nil))))) (va_cons (ve_ix (ve_var 2) (ve_frz (vn_call (Ts := [0]) (ok__law_take A) (hr.mono (by decide)) rfl A.m__law_take A.F__law_take.kp A.b__law_take (va_cons (ve_var 0) (va_cons (ve_callB call_len ok_lenD (by rfl) A.n_len (by decide +kernel) (va_cons (ve_var 2) va_nil)) va_nil))))) va_nil)))) (ve_frz (vn_call (Ts := [0]) (ok__law_take A) (hr.mono (by decide)) rfl A.m__law_take A.F__law_take.kp A.b__law_take (va_cons (ve_var 0) (va_cons ve_int va_nil))))))
    (vss_cons (vs_set (i := 5) sc__law_bent.nd (ve_frz (vn_call (Ts := [0]) (ok__law_take A) (hr.mono (by decide)) rfl A.m__law_take A.F__law_take.kp A.b__law_take (va_cons (ve_var 0) (va_cons (ve_add (ve_callB call_len ok_lenD (by rfl) A.n_len (by decide +kernel) (va_cons (ve_var 1) va_nil)) ve_int) va_nil)))))
    (vss_cons (vs_set (i := 6) sc__law_bent.nd (ve_frz (vn_call (Ts := [0]) (ok__law_take A) (hr.mono (by decide)) rfl A.m__law_take A.F__law_take.kp A.b__law_take (va_cons (ve_var 0) (va_cons ve_int va_nil)))))
    (vss_cons (vs_if (vt_cmp op_lt ok_icmp (ve_var 6) ve_int (nomark _)) (vss_one (vs_ret (vn_dat (ve_add (ve_add (ve_cut (ve_var 1) vo_none (vo_some (ve_var 5))) (ve_var 4)) (ve_cut (ve_var 1) (vo_some (ve_add (ve_var 5) (ve_var 6))) vo_none))))) vss_nil)
    (vss_cons (vs_if (vt_cmp (op_eqD hr.units) ok_eqD (ve_var 6) ve_int (nomark _)) (vss_one (vs_ret (vn_dat (ve_add (ve_cut (ve_var 1) vo_none (vo_some (ve_var 5))) (ve_cut (ve_var 1) (vo_some (ve_add (ve_var 5) ve_int)) vo_none))))) vss_nil)
    (vss_cons (vs_if (vt_cmp (op_eqD hr.units) ok_eqD (ve_var 6) ve_int (nomark _)) (vss_one (vs_ret (vn_dat (ve_add (ve_cut (ve_var 1) vo_none (vo_some (ve_add (ve_var 5) ve_int))) (ve_cut (ve_var 1) (vo_some (ve_var 5)) vo_none))))) vss_nil)
    (vss_cons (vs_if (vt_cmp (op_eqD hr.units) ok_eqD (ve_var 6) ve_int (nomark _)) (vss_one (vs_ret (vn_dat (ve_add (ve_add (ve_cut (ve_var 1) vo_none (vo_some (ve_var 5))) (ve_revS (ve_cut (ve_var 1) (vo_some (ve_var 5)) (vo_some (ve_add (ve_var 5) ve_int))))) (ve_cut (ve_var 1) (vo_some (ve_add (ve_var 5) ve_int)) vo_none))))) vss_nil)
    (vss_cons (vs_set (i := 7) sc__law_bent.nd (ve_split (ve_var 1) (ve_strC e_x20)))
    (vss_cons (vs_set (i := 5) sc__law_bent.nd (ve_frz (vn_call (Ts := [0]) (ok__law_take A) (hr.mono (by decide)) rfl A.m__law_take A.F__law_take.kp A.b__law_take (va_cons (ve_var 0) (va_cons (ve_callB call_len ok_lenD (by rfl) A.n_len (by decide +kernel) (va_cons (ve_var 7) va_nil)) va_nil)))))
    (vss_cons (vs_set (i := 8) sc__law_bent.nd (ve_ix (ve_frz (vn_lst (va_cons (ve_frz (vn_lst va_nil)) (va_cons (ve_rep (ve_frz (vn_lst (va_cons (ve_ix (ve_var 7) (ve_var 5)) va_nil))) ve_int) (va_cons (ve_frz (vn_lst (va_cons (ve_ix (ve_var 7) (ve_frz (vn_call (Ts := [0]) (ok__law_take A) (hr.mono (by decide)) rfl A.m__law_take A.F__law_take.kp A.b__law_take (va_cons (ve_var 0) (va_cons (ve_callB call_len ok_lenD (by rfl) A.n_len (by decide +kernel) (va_cons (ve_var 7) va_nil)) va_nil))))) va_nil))) va_nil))))) (ve_sub (ve_var 6) ve_int)))
    (vss_one (vs_ret (vn_dat (ve_join (ve_strC e_x20) (ve_add (ve_add (ve_cut (ve_var 7) vo_none (vo_some (ve_var 5))) (ve_var 8)) (ve_cut (ve_var 7) (vo_some (ve_add (ve_var 5) ve_int)) vo_none)))))))))))))))))
noncomputable abbrev N_is_showing : List Str := ["thing"]
theorem sc_is_showing : FnScope N_is_showing ["thing"] (defScope st_is_showing) := ⟨rfl, rfl, rfl, by decide +kernel, rfl, by decide +kernel, by decide +kernel⟩
theorem ok_is_showing (A : All K w mg a) : FnOk P w K mg base CX0 3 a.f_is_showing a.d_is_showing ["thing"] (spV K Wx0 1 SM.F_is_showing) :=
  fn_ok (k := 2) A.F_is_showing sc_is_showing fun cdv Ar outer s H E hr => by
   have A := A
   exact (vss_cons (vs_if (vw_pt (vw_or (vt_not (vt_val (ve_isi (B := .tuple) (ve_var 0) (by rfl) A.n_isinstance (by rfl) A.n_tuple (by decide +kernel)))) (vw_or (vt_cmp (op_neD hr.units) ok_neD (ve_callB call_len ok_lenD (by rfl) A.n_len (by decide +kernel) (va_cons (ve_var 0) va_nil)) ve_int (nomark _)) (vw_or1 (vt_not (vt_val (ve_frz (vn_call (Ts := []) (ok_is_within A) (hr.mono (by decide)) rfl A.m_is_within A.F_is_within.kp A.b_is_within (va_cons (ve_ix (ve_var 0) ve_int) (va_cons ve_int (va_cons ve_int va_nil))))))))))) (vss_one (vs_ret (vn_dat ve_bl))) vss_nil)
    (vss_one (vs_ret (vn_dat (ve_and (ve_isi (B := .str) (ve_ix (ve_var 0) ve_int) (by rfl) A.n_isinstance (by rfl) A.n_str (by decide +kernel)) (ve_one (ve_inK (ve_ix (ve_var 0) ve_int) rfl A.m_PLACES A.v_PLACES.k)))))))
noncomputable abbrev N_is_card : List Str := ["thing", "writer", "other", "side", "price", "count", "moment", "member"]
theorem sc_is_card : FnScope N_is_card ["thing"] (defScope st_is_card) := ⟨rfl, rfl, rfl, by decide +kernel, rfl, by decide +kernel, by decide +kernel⟩
theorem ok_is_card (A : All K w mg a) : FnOk P w K mg base CX0 3 a.f_is_card a.d_is_card ["thing"] (spV K Wx0 1 SM.F_is_card) :=
  fn_ok (k := 2) A.F_is_card sc_is_card fun cdv Ar outer s H E hr => by
   have A := A
   exact (vss_cons (vs_if (vw_pt (vw_or (vt_not (vt_val (ve_isi (B := .tuple) (ve_var 0) (by rfl) A.n_isinstance (by rfl) A.n_tuple (by decide +kernel)))) (vw_or1 (vt_cmp (op_neD hr.units) ok_neD (ve_callB call_len ok_lenD (by rfl) A.n_len (by decide +kernel) (va_cons (ve_var 0) va_nil)) ve_int (nomark _))))) (vss_one (vs_ret (vn_dat ve_bl))) vss_nil)
    (vss_cons (vs_asg (ve_var 0) (vg_tup rfl (vgs_cons (vg_name (i := 1) sc_is_card.nd) (vgs_cons (vg_name (i := 2) sc_is_card.nd) (vgs_cons (vg_name (i := 3) sc_is_card.nd) (vgs_cons (vg_name (i := 4) sc_is_card.nd) (vgs_cons (vg_name (i := 5) sc_is_card.nd) (vgs_cons (vg_name (i := 6) sc_is_card.nd) vgs_nil))))))))
    (vss_cons (vs_for PassesOwn.never rfl (vi_seq (ve_tup (va_cons (ve_var 1) (va_cons (ve_var 2) va_nil)))) (vg_name (i := 7) sc_is_card.nd) (vss_one (vs_if (vt_not (vt_val (ve_frz (vn_call (Ts := [7]) (ok_is_within A) (hr.mono (by decide)) rfl A.m_is_within A.F_is_within.kp A.b_is_within (va_cons (ve_var 7) (va_cons ve_int (va_cons (ve_sub (ve_glob (v := .int 12) rfl A.m_MOST_MEMBERS.choose_spec ⟨_, rfl⟩ (fun _ => .int _)) ve_int) va_nil))))))) (vss_one (vs_ret (vn_dat ve_bl))) vss_nil)))
    (vss_cons (vs_if (vw_pt (vw_or (vt_cmp (op_eqD hr.units) ok_eqD (ve_var 1) (ve_var 2) (nomark _)) (vw_or (vt_not (vt_val (ve_isi (B := .str) (ve_var 3) (by rfl) A.n_isinstance (by rfl) A.n_str (by decide +kernel)))) (vw_or1 (vt_notInK (ve_var 3) rfl A.m_SIDES A.v_SIDES.k))))) (vss_one (vs_ret (vn_dat ve_bl))) vss_nil)
    (vss_cons (vs_if (vw_pt (vw_or (vt_not (vt_val (ve_frz (vn_call (Ts := [4]) (ok_is_within A) (hr.mono (by decide)) rfl A.m_is_within A.F_is_within.kp A.b_is_within (va_cons (ve_var 4) (va_cons ve_int (va_cons (ve_glob (v := .int 1000000000) rfl A.m_MOST_PRICE.choose_spec ⟨_, rfl⟩ (fun _ => .int _)) va_nil))))))) (vw_or1 (vt_not (vt_val (ve_frz (vn_call (Ts := [5]) (ok_is_within A) (hr.mono (by decide)) rfl A.m_is_within A.F_is_within.kp A.b_is_within (va_cons (ve_var 5) (va_cons ve_int (va_cons (ve_glob (v := .int 1000000) rfl A.m_MOST_COUNT.choose_spec ⟨_, rfl⟩ (fun _ => .int _)) va_nil)))))))))) (vss_one (vs_ret (vn_dat ve_bl))) vss_nil)
    (vss_one (vs_ret (vn_call (Ts := [6]) (ok_is_within A) (hr.mono (by decide)) rfl A.m_is_within A.F_is_within.kp A.b_is_within (va_cons (ve_var 6) (va_cons ve_int (va_cons (ve_pow ve_int ve_int) va_nil)))))))))))
noncomputable abbrev N__law_sign : List Str := ["bag", "palm"]
theorem sc__law_sign : FnScope N__law_sign ["bag"] (defScope st__law_sign) := ⟨rfl, rfl, rfl, by decide +kernel, rfl, by decide +kernel, by decide +kernel⟩
theorem ok__law_sign (A : All K w mg a) : FnOk P w K mg base CX0 3 a.f__law_sign a.d__law_sign ["bag"] (spV K Wx0 1 fSign) :=
  fn_ok (k := 2) A.F__law_sign sc__law_sign fun cdv Ar outer s H E hr => by
   have A := A
   exact (vss_cons (vs_set (i := 1) sc__law_sign.nd (ve_ix (ve_frz (vn_lst (va_cons (ve_strC eIn) (va_cons (ve_strC eOut) va_nil)))) (ve_frz (vn_call (Ts := [0]) (ok__law_take A) (hr.mono (by decide)) rfl A.m__law_take A.F__law_take.kp A.b__law_take (va_cons (ve_var 0) (va_cons ve_int va_nil))))))
    (vss_one (vs_ret (vn_dat (ve_add (ve_tup (va_cons (ve_var 1) (va_cons (ve_frz (vn_call (Ts := [0]) (ok__law_take A) (hr.mono (by decide)) rfl A.m__law_take A.F__law_take.kp A.b__law_take (va_cons (ve_var 0) (va_cons ve_int va_nil)))) va_nil))) (ve_frz (vn_call (Ts := [0]) (ok__law_showing A) (hr.mono (by decide)) rfl A.m__law_showing A.F__law_showing.kp A.b__law_showing (va_cons (ve_var 0) va_nil))))))))
noncomputable abbrev N__law_read_card : List Str := ["text", "words", "numbers", "k", "card"]
theorem sc__law_read_card : FnScope N__law_read_card ["text"] (defScope st__law_read_card) := ⟨rfl, rfl, rfl, by decide +kernel, rfl, by decide +kernel, by decide +kernel⟩
theorem ok__law_read_card (A : All K w mg a) : FnOk P w K mg base CX0 3 a.f__law_read_card a.d__law_read_card ["text"] (spV K Wx0 1 F__law_read_card) :=
  fn_ok (k := 2) A.F__law_read_card sc__law_read_card fun cdv Ar outer s H E hr => by
   have A := A
   exact (vss_cons (vs_set (i := 1) sc__law_read_card.nd (ve_split (ve_var 0) (ve_strC e_x20)))
    (vss_cons (vs_if (vw_pt (vw_or (vt_cmp (op_neD hr.units) ok_neD (ve_callB call_len ok_lenD (by rfl) A.n_len (by decide +kernel) (va_cons (ve_var 1) va_nil)) ve_int (nomark _)) (vw_or1 (vt_cmp (op_notInA (hu65 hr)) ok_notInD (ve_ix (ve_var 1) ve_int) (ve_frz (vn_lst (va_cons (ve_strC eBought) (va_cons (ve_strC eSold) va_nil)))) rfl)))) (vss_one (vs_ret (vn_dat ve_non))) vss_nil)
    (vss_cons (vs_if (vt_cmp (op_neD hr.units) ok_neD (ve_frz (vn_lst (va_cons (ve_ix (ve_var 1) ve_int) (va_cons (ve_ix (ve_var 1) ve_int) (va_cons (ve_ix (ve_var 1) ve_int) va_nil))))) (ve_frz (vn_lst (va_cons (ve_strC e_at) (va_cons (ve_ix (ve_frz (vn_lst (va_cons (ve_strC e_from) (va_cons (ve_strC e_to) va_nil)))) (ve_callTy call_int1 ok_intD (by rfl) A.n_int (by decide +kernel) (va_cons (ve_cmp (op_eqD hr.units) ok_eqD (ve_ix (ve_var 1) ve_int) (ve_strC eSold) (nomark _)) va_nil))) (va_cons (ve_strC eIn) va_nil))))) (nomark _)) (vss_one (vs_ret (vn_dat ve_non))) vss_nil)
    (vss_cons (vs_setCompV (i := 2) (own := [("k", 3)]) rfl sc__law_read_card.nd (vi_seq (ve_tup (va_cons ve_int (va_cons ve_int (va_cons ve_int (va_cons ve_int (va_cons ve_int va_nil))))))) (blkOk_by (own := [("k", 3)]) (N := N__law_read_card) (sc := defScope st__law_read_card) (by decide +kernel)) (fun _ _ _ _ _ => (vg_name (i := 3) sc__law_read_card.nd)) (by decide) (fun _ _ _ _ _ => vts_nil) (fun _ _ _ _ _ => (ve_frz (vn_call (Ts := []) (ok__law_number A) (hr.mono (by decide)) rfl A.m__law_number A.F__law_number.kp A.b__law_number (va_cons (ve_ix (ve_var 1) (ve_var 3)) (va_cons ve_int va_nil))))))
    (vss_cons (vs_set (i := 4) sc__law_read_card.nd (ve_add (ve_tup (va_cons (ve_ix (ve_var 2) ve_int) (va_cons (ve_ix (ve_var 2) ve_int) (va_cons (ve_ix (ve_var 1) ve_int) va_nil)))) (ve_callTy call_tuple_of ok_tupleD (by rfl) A.n_tuple (by decide +kernel) (va_cons (ve_cut (ve_var 2) (vo_some ve_int) vo_none) va_nil))))
    (vss_one (vs_ret (vn_dat (ve_if (vt_val (ve_frz (vn_call (Ts := [4]) (ok__law_is_card A) (hr.mono (by decide)) rfl A.m__law_is_card A.F__law_is_card.kp A.b__law_is_card (va_cons (ve_var 4) va_nil)))) (ve_var 4) ve_non)))))))))
noncomputable abbrev N_is_sign : List Str := ["thing"]
theorem sc_is_sign : FnScope N_is_sign ["thing"] (defScope st_is_sign) := ⟨rfl, rfl, rfl, by decide +kernel, rfl, by decide +kernel, by decide +kernel⟩
theorem ok_is_sign (A : All K w mg a) : FnOk P w K mg base CX0 4 a.f_is_sign a.d_is_sign ["thing"] (spV K Wx0 1 SM.F_is_sign) :=
  fn_ok (k := 3) A.F_is_sign sc_is_sign fun cdv Ar outer s H E hr => by
   have A := A
   exact (vss_cons (vs_if (vw_pt (vw_or (vt_not (vt_val (ve_isi (B := .tuple) (ve_var 0) (by rfl) A.n_isinstance (by rfl) A.n_tuple (by decide +kernel)))) (vw_or (vt_cmp (op_neD hr.units) ok_neD (ve_callB call_len ok_lenD (by rfl) A.n_len (by decide +kernel) (va_cons (ve_var 0) va_nil)) ve_int (nomark _)) (vw_or1 (vt_not (vt_val (ve_frz (vn_call (Ts := []) (ok_is_showing A) (hr.mono (by decide)) rfl A.m_is_showing A.F_is_showing.kp A.b_is_showing (va_cons (ve_cut (ve_var 0) (vo_some ve_int) vo_none) va_nil))))))))) (vss_one (vs_ret (vn_dat ve_bl))) vss_nil)
    (vss_one (vs_ret (vn_dat (ve_and (ve_isi (B := .str) (ve_ix (ve_var 0) ve_int) (by rfl) A.n_isinstance (by rfl) A.n_str (by decide +kernel)) (ve_and (ve_inK (ve_ix (ve_var 0) ve_int) rfl A.m_PALMS A.v_PALMS.k) (ve_one (ve_frz (vn_call (Ts := []) (ok_is_within A) (hr.mono (by decide)) rfl A.m_is_within A.F_is_within.kp A.b_is_within (va_cons (ve_ix (ve_var 0) ve_int) (va_cons ve_int (va_cons ve_int va_nil))))))))))))
noncomputable abbrev N_showing_in : List Str := ["text", "showing"]
theorem sc_showing_in : FnScope N_showing_in ["text"] (defScope st_showing_in) := ⟨rfl, rfl, rfl, by decide +kernel, rfl, by decide +kernel, by decide +kernel⟩
theorem ok_showing_in (A : All K w mg a) : FnOk P w K mg base CX0 4 a.f_showing_in a.d_showing_in ["text"] (spV K Wx0 1 F_showing_in) :=
  fn_ok (k := 3) A.F_showing_in sc_showing_in fun cdv Ar outer s H E hr => by
   have A := A
   exact (vss_cons (vs_if (vt_cmp (op_neD hr.units) ok_neD (ve_callB call_len ok_lenD (by rfl) A.n_len (by decide +kernel) (va_cons (ve_var 0) va_nil)) ve_int (nomark _)) (vss_one (vs_ret (vn_dat ve_non))) vss_nil)
    (vss_cons (vs_set (i := 1) sc_showing_in.nd (ve_tup (va_cons (ve_frz (vn_call (Ts := []) (ok_number_of A) (hr.mono (by decide)) rfl A.m_number_of A.F_number_of.kp A.b_number_of (va_cons (ve_ix (ve_var 0) ve_int) (va_cons ve_int va_nil)))) (va_cons (ve_tabG rfl A.m_PARTS A.k_PARTS A.g_PARTS (va_cons (ve_ix (ve_var 0) ve_int) (va_cons (ve_strC e_x) va_nil))) va_nil))))
    (vss_one (vs_ret (vn_dat (ve_if (vt_val (ve_frz (vn_call (Ts := [1]) (ok_is_showing A) (hr.mono (by decide)) rfl A.m_is_showing A.F_is_showing.kp A.b_is_showing (va_cons (ve_var 1) va_nil)))) (ve_var 1) ve_non))))))
noncomputable abbrev N_read_card : List Str := ["text", "words", "count", "price", "other", "moment", "k", "card"]
theorem sc_read_card : FnScope N_read_card ["text"] (defScope st_read_card) := ⟨rfl, rfl, rfl, by decide +kernel, rfl, by decide +kernel, by decide +kernel⟩
theorem ok_read_card (A : All K w mg a) : FnOk P w K mg base (L2N.CX P w) 4 a.f_read_card a.d_read_card ["text"] (spV K (WxR mg) 1 F_read_card) :=
  fn_okR (k := 3) A.F_read_card sc_read_card fun cdv Ar outer s H E hr tk po => by
   have A := A
   exact (vss_cons (vs_set (i := 1) sc_read_card.nd (ve_if (vt_val (ve_isi (B := .str) (ve_var 0) (by rfl) A.n_isinstance (by rfl) A.n_str (by decide +kernel))) (ve_split (ve_var 0) (ve_strC e_x20)) (ve_frz (vn_lst va_nil))))
    (vss_cons (vs_if (vw_pt (vw_or (vt_cmp (op_neD hr.units) ok_neD (ve_callB call_len ok_lenD (by rfl) A.n_len (by decide +kernel) (va_cons (ve_var 1) va_nil)) ve_int (nomark _)) (vw_or1 (vt_tnin rfl A.m_LINKS A.k_LINKS A.g_LINKS (ve_ix (ve_var 1) ve_int))))) (vss_one (vs_raise rfl tk (A.tb.ex _ _ (List.mem_of_getElem? (i := 8) rfl)) A.m_NoText (by rfl) SM.e_NoText)) vss_nil)
    (vss_cons (vs_if (vt_cmp (op_neD hr.units) ok_neD (ve_frz (vn_lst (va_cons (ve_ix (ve_var 1) ve_int) (va_cons (ve_ix (ve_var 1) ve_int) (va_cons (ve_ix (ve_var 1) ve_int) va_nil))))) (ve_frz (vn_lst (va_cons (ve_strC e_at) (va_cons (ve_tab rfl A.m_LINKS A.k_LINKS (ve_ix (ve_var 1) ve_int)) (va_cons (ve_strC eIn) va_nil))))) (nomark _)) (vss_one (vs_raise rfl tk (A.tb.ex _ _ (List.mem_of_getElem? (i := 8) rfl)) A.m_NoText (by rfl) SM.e_NoText)) vss_nil)
    (vss_cons (vs_asg (ve_frz (vn_comp (own := [("k", 6)]) rfl sc_read_card.nd (vi_seq (ve_tup (va_cons ve_int (va_cons ve_int (va_cons ve_int (va_cons ve_int va_nil)))))) (blkOk_by (own := [("k", 6)]) (N := N_read_card) (sc := defScope st_read_card) (by decide +kernel)) (fun _ _ _ _ _ => (vg_name (i := 6) sc_read_card.nd)) (by decide) (fun _ _ _ _ _ => vts_nil) (fun _ _ _ _ _ => (ve_frz (vn_call (Ts := []) (ok_number_of A) (hr.mono (by decide)) rfl A.m_number_of A.F_number_of.kp A.b_number_of (va_cons (ve_ix (ve_var 1) (ve_var 6)) (va_cons ve_int va_nil))))))) (vg_unl rfl (vgs_cons (vg_name (i := 2) sc_read_card.nd) (vgs_cons (vg_name (i := 3) sc_read_card.nd) (vgs_cons (vg_name (i := 4) sc_read_card.nd) (vgs_cons (vg_name (i := 5) sc_read_card.nd) vgs_nil))))))
    (vss_cons (vs_set (i := 7) sc_read_card.nd (ve_tup (va_cons (ve_frz (vn_call (Ts := []) (ok_number_of A) (hr.mono (by decide)) rfl A.m_number_of A.F_number_of.kp A.b_number_of (va_cons (ve_ix (ve_var 1) ve_int) (va_cons ve_int va_nil)))) (va_cons (ve_var 4) (va_cons (ve_ix (ve_var 1) ve_int) (va_cons (ve_var 3) (va_cons (ve_var 2) (va_cons (ve_var 5) va_nil))))))))
    (vss_cons (vs_if (vt_not (vt_val (ve_frz (vn_call (Ts := [7]) (ok_is_card A) (hr.mono (by decide)) rfl A.m_is_card A.F_is_card.kp A.b_is_card (va_cons (ve_var 7) va_nil))))) (vss_one (vs_raise rfl tk (A.tb.ex _ _ (List.mem_of_getElem? (i := 8) rfl)) A.m_NoText (by rfl) SM.e_NoText)) vss_nil)
    (vss_one (vs_retV 7))))))))
noncomputable abbrev N__law_read_sign : List Str := ["text", "figure", "place", "showing", "palm"]
theorem sc__law_read_sign : FnScope N__law_read_sign ["text"] (defScope st__law_read_sign) := ⟨rfl, rfl, rfl, by decide +kernel, rfl, by decide +kernel, by decide +kernel⟩
theorem ok__law_read_sign (A : All K w mg a) : ∀ j : Nat, FnOk P w K mg base CX0 (1 + j) a.f__law_read_sign a.d__law_read_sign ["text"] (spV K Wx0 1 (F__law_read_sign j))
  | 0 => fn_ok (k := 0) A.F__law_read_sign sc__law_read_sign fun cdv Ar outer s H E hr => vss_noneM
  | j + 1 => fn_ok (k := 1 + j) A.F__law_read_sign sc__law_read_sign fun cdv Ar outer s H E hr => by
   have A := A
   have ih := ok__law_read_sign A j
   exact (vss_cons (vs_if (vt_cmp (op_eqD hr.units) ok_eqD (ve_callB call_len ok_lenD (by rfl) A.n_len (by decide +kernel) (va_cons (ve_var 0) va_nil)) ve_int (nomark _)) (vss_cons (vs_asg (ve_var 0) (vg_unS rfl (vgs_cons (vg_name (i := 1) sc__law_read_sign.nd) (vgs_cons (vg_name (i := 2) sc__law_read_sign.nd) vgs_nil))))
    (vss_cons (vs_if (vw_pt (vw_and (vt_cmp (op_inA (hu65 hr)) ok_inD (ve_var 1) (ve_strC e_123456789) rfl) (vw_and1 (vt_cmp (op_inA (hu65 hr)) ok_inD (ve_var 2) (ve_strC e_cw) rfl)))) (vss_one (vs_ret (vn_dat (ve_tup (va_cons (ve_callTy cr_intT ok_intTD (by rfl) A.n_int (by decide +kernel) (va_cons (ve_var 1) va_nil)) (va_cons (ve_ix (ve_frz (vn_lst (va_cons (ve_strC eChin) (va_cons (ve_strC eBrow) va_nil)))) (ve_callTy cr_intT ok_intTD (by rfl) A.n_int (by decide +kernel) (va_cons (ve_cmp (op_eqD hr.units) ok_eqD (ve_var 2) (ve_strC e_w) (nomark _)) va_nil))) va_nil)))))) vss_nil)
    (vss_one (vs_ret (vn_dat ve_non))))) vss_nil)
    (vss_cons (vs_if (vw_pt (vw_or (vt_cmp (op_neD hr.units) ok_neD (ve_callB call_len ok_lenD (by rfl) A.n_len (by decide +kernel) (va_cons (ve_var 0) va_nil)) ve_int (nomark _)) (vw_or (vt_cmp (op_notInA (hu65 hr)) ok_notInD (ve_ix (ve_var 0) ve_int) (ve_strC e_bs) rfl) (vw_or (vt_cmp (op_notInA (hu65 hr)) ok_notInD (ve_ix (ve_var 0) ve_int) (ve_strC e_0123456789) rfl) (vw_or1 (vt_cmp (op_neD hr.units) ok_neD (ve_ix (ve_var 0) ve_int) (ve_strC e_x78) (nomark _))))))) (vss_one (vs_ret (vn_dat ve_non))) vss_nil)
    (vss_cons (vs_set (i := 3) sc__law_read_sign.nd (ve_frz (vn_call (Ts := []) ih (hr.mono (by omega)) rfl A.m__law_read_sign A.F__law_read_sign.kp A.b__law_read_sign (va_cons (ve_cut (ve_var 0) (vo_some ve_int) vo_none) va_nil))))
    (vss_cons (vs_set (i := 4) sc__law_read_sign.nd (ve_ix (ve_frz (vn_lst (va_cons (ve_strC eIn) (va_cons (ve_strC eOut) va_nil)))) (ve_callTy cr_intT ok_intTD (by rfl) A.n_int (by decide +kernel) (va_cons (ve_cmp (op_eqD hr.units) ok_eqD (ve_ix (ve_var 0) ve_int) (ve_strC e_s) (nomark _)) va_nil))))
    (vss_one (vs_ret (vn_dat (ve_if (vt_cmp op_isN ok_isND (ve_var 3) ve_non (nomark _)) ve_non (ve_add (ve_tup (va_cons (ve_var 4) (va_cons (ve_callTy cr_intT ok_intTD (by rfl) A.n_int (by decide +kernel) (va_cons (ve_ix (ve_var 0) ve_int) va_nil)) va_nil))) (ve_var 3))))))))))
noncomputable abbrev N_sign_in : List Str := ["text", "sign"]
theorem sc_sign_in : FnScope N_sign_in ["text"] (defScope st_sign_in) := ⟨rfl, rfl, rfl, by decide +kernel, rfl, by decide +kernel, by decide +kernel⟩
theorem ok_sign_in (A : All K w mg a) : FnOk P w K mg base CX0 5 a.f_sign_in a.d_sign_in ["text"] (spV K Wx0 1 F_sign_in) :=
  fn_ok (k := 4) A.F_sign_in sc_sign_in fun cdv Ar outer s H E hr => by
   have A := A
   exact (vss_cons (vs_if (vw_pt (vw_or (vt_cmp (op_neD hr.units) ok_neD (ve_callB call_len ok_lenD (by rfl) A.n_len (by decide +kernel) (va_cons (ve_var 0) va_nil)) ve_int (nomark _)) (vw_or (vt_cmp (op_neD hr.units) ok_neD (ve_ix (ve_var 0) ve_int) (ve_strC e_x78) (nomark _)) (vw_or1 (vt_cmp op_isN ok_isND (ve_frz (vn_call (Ts := []) (ok_showing_in A) (hr.mono (by decide)) rfl A.m_showing_in A.F_showing_in.kp A.b_showing_in (va_cons (ve_cut (ve_var 0) (vo_some ve_int) vo_none) va_nil))) ve_non (nomark _)))))) (vss_one (vs_ret (vn_dat ve_non))) vss_nil)
    (vss_cons (vs_set (i := 1) sc_sign_in.nd (ve_add (ve_tup (va_cons (ve_tabG rfl A.m_PARTS A.k_PARTS A.g_PARTS (va_cons (ve_ix (ve_var 0) ve_int) (va_cons (ve_strC e_x) va_nil))) (va_cons (ve_frz (vn_call (Ts := []) (ok_number_of A) (hr.mono (by decide)) rfl A.m_number_of A.F_number_of.kp A.b_number_of (va_cons (ve_ix (ve_var 0) ve_int) (va_cons ve_int va_nil)))) va_nil))) (ve_frz (vn_call (Ts := []) (ok_showing_in A) (hr.mono (by decide)) rfl A.m_showing_in A.F_showing_in.kp A.b_showing_in (va_cons (ve_cut (ve_var 0) (vo_some ve_int) vo_none) va_nil)))))
    (vss_one (vs_ret (vn_dat (ve_if (vt_val (ve_frz (vn_call (Ts := [1]) (ok_is_sign A) (hr.mono (by decide)) rfl A.m_is_sign A.F_is_sign.kp A.b_is_sign (va_cons (ve_var 1) va_nil)))) (ve_var 1) ve_non))))))
noncomputable abbrev N_read_showing : List Str := ["text"]
theorem sc_read_showing : FnScope N_read_showing ["text"] (defScope st_read_showing) := ⟨rfl, rfl, rfl, by decide +kernel, rfl, by decide +kernel, by decide +kernel⟩
theorem ok_read_showing (A : All K w mg a) : FnOk P w K mg base (L2N.CX P w) 5 a.f_read_showing a.d_read_showing ["text"] (spV K (WxR mg) 1 F_read_showing) :=
  fn_okR (k := 4) A.F_read_showing sc_read_showing fun cdv Ar outer s H E hr tk po => by
   have A := A
   exact (vss_cons (vs_if (vw_pt (vw_or (vt_not (vt_val (ve_isi (B := .str) (ve_var 0) (by rfl) A.n_isinstance (by rfl) A.n_str (by decide +kernel)))) (vw_or1 (vt_cmp op_isN ok_isND (ve_frz (vn_call (Ts := [0]) (ok_showing_in A) (hr.mono (by decide)) rfl A.m_showing_in A.F_showing_in.kp A.b_showing_in (va_cons (ve_var 0) va_nil))) ve_non (nomark _))))) (vss_one (vs_raise rfl tk (A.tb.ex _ _ (List.mem_of_getElem? (i := 8) rfl)) A.m_NoText (by rfl) SM.e_NoText)) vss_nil)
    (vss_one (vs_ret (vn_call (Ts := [0]) (ok_showing_in A) (hr.mono (by decide)) rfl A.m_showing_in A.F_showing_in.kp A.b_showing_in (va_cons (ve_var 0) va_nil)))))
noncomputable abbrev N_read_sign : List Str := ["text"]
theorem sc_read_sign : FnScope N_read_sign ["text"] (defScope st_read_sign) := ⟨rfl, rfl, rfl, by decide +kernel, rfl, by decide +kernel, by decide +kernel⟩
theorem ok_read_sign (A : All K w mg a) : FnOk P w K mg base (L2N.CX P w) 6 a.f_read_sign a.d_read_sign ["text"] (spV K (WxR mg) 1 F_read_sign) :=
  fn_okR (k := 5) A.F_read_sign sc_read_sign fun cdv Ar outer s H E hr tk po => by
   have A := A
   exact (vss_cons (vs_if (vw_pt (vw_or (vt_not (vt_val (ve_isi (B := .str) (ve_var 0) (by rfl) A.n_isinstance (by rfl) A.n_str (by decide +kernel)))) (vw_or1 (vt_cmp op_isN ok_isND (ve_frz (vn_call (Ts := [0]) (ok_sign_in A) (hr.mono (by decide)) rfl A.m_sign_in A.F_sign_in.kp A.b_sign_in (va_cons (ve_var 0) va_nil))) ve_non (nomark _))))) (vss_one (vs_raise rfl tk (A.tb.ex _ _ (List.mem_of_getElem? (i := 8) rfl)) A.m_NoText (by rfl) SM.e_NoText)) vss_nil)
    (vss_one (vs_ret (vn_call (Ts := [0]) (ok_sign_in A) (hr.mono (by decide)) rfl A.m_sign_in A.F_sign_in.kp A.b_sign_in (va_cons (ve_var 0) va_nil)))))
noncomputable abbrev N__law_read_by : List Str := ["way", "text", "found", "kind", "e"]
theorem sc__law_read_by : FnScope N__law_read_by ["way", "text"] (defScope st__law_read_by) := ⟨rfl, rfl, rfl, by decide +kernel, rfl, by decide +kernel, by decide +kernel⟩
theorem ok__law_read_by (A : All K w mg a) : FnOk P w K mg base CX0 7 a.f__law_read_by a.d__law_read_by ["way", "text"] (spV K Wx0 2 F__law_read_by) :=
  fn_ok (k := 6) A.F__law_read_by sc__law_read_by fun cdv Ar outer s H E hr => by
   have A := A
   exact (vss_cons (vs_set (i := 2) sc__law_read_by.nd ve_non)
    (vss_cons (vs_set (i := 3) sc__law_read_by.nd (ve_strC e_x))
    (vss_cons (vs_tryK (j := 4) (i := 3) sc__law_read_by.nd (ok__law_kinds A) (hr.mono (by decide)) A.m__law_kinds (by rfl) A.F__law_kinds.kp A.b__law_kinds (by rfl) A.m_HallError (A.tb.tryF rfl) (fun W pn xe tk po => (vss_one (vs_set (i := 2) sc__law_read_by.nd (ve_frz (vn_callIx (Ts := [1]) ⟨_, _, _, ok_read_sign A, hr.mono (by decide), A.F_read_sign.kp, A.b_read_sign⟩ ⟨_, _, _, ok_read_showing A, hr.mono (by decide), A.F_read_showing.kp, A.b_read_showing⟩ ⟨_, _, _, ok_read_card A, hr.mono (by decide), A.F_read_card.kp, A.b_read_card⟩ tk rfl A.m_read_sign rfl A.m_read_showing rfl A.m_read_card (ve_var 0) (va_cons (ve_var 1) va_nil)))))))
    (vss_one (vs_ret (vn_dat (ve_if (vt_cmp (op_eqD hr.units) ok_eqD (ve_var 3) (ve_strC e_x) (nomark _)) (ve_var 2) (ve_var 3))))))))
noncomputable abbrev N__law_right : List Str := ["text", "sign", "due", "way", "one"]
theorem sc__law_right : FnScope N__law_right ["text"] (defScope st__law_right) := ⟨rfl, rfl, rfl, by decide +kernel, rfl, by decide +kernel, by decide +kernel⟩
theorem ok__law_right (A : All K w mg a) : FnOk P w K mg base CX0 8 a.f__law_right a.d__law_right ["text"] (spV K Wx0 1 F__law_right) :=
  fn_ok (k := 7) A.F__law_right sc__law_right fun cdv Ar outer s H E hr => by
   have A := A
   exact (vss_cons (vs_set (i := 1) sc__law_right.nd (ve_frz (vn_call (Ts := [0]) (ok__law_read_sign A 3) (hr.mono (by decide)) rfl A.m__law_read_sign A.F__law_read_sign.kp A.b__law_read_sign (va_cons (ve_var 0) va_nil))))
    (vss_cons (vs_set (i := 2) sc__law_right.nd (ve_frz (vn_lst (va_cons (ve_if (vt_cmp (op_eqD hr.units) ok_eqD (ve_callB call_len ok_lenD (by rfl) A.n_len (by decide +kernel) (va_cons (ve_var 0) va_nil)) ve_int (nomark _)) (ve_var 1) ve_non) (va_cons (ve_if (vt_cmp (op_eqD hr.units) ok_eqD (ve_callB call_len ok_lenD (by rfl) A.n_len (by decide +kernel) (va_cons (ve_var 0) va_nil)) ve_int (nomark _)) (ve_var 1) ve_non) (va_cons (ve_frz (vn_call (Ts := [0]) (ok__law_read_card A) (hr.mono (by decide)) rfl A.m__law_read_card A.F__law_read_card.kp A.b__law_read_card (va_cons (ve_var 0) va_nil))) va_nil))))))
    (vss_one (vs_ret (vn_dat (ve_cmp (op_eqD hr.units) ok_eqD (ve_frz (vn_comp (own := [("way", 3)]) rfl sc__law_right.nd (vi_range1 (by rfl) A.n_range (va_cons ve_int va_nil)) (blkOk_by (own := [("way", 3)]) (N := N__law_right) (sc := defScope st__law_right) (by decide +kernel)) (fun _ _ _ _ _ => (vg_name (i := 3) sc__law_right.nd)) (by decide) (fun _ _ _ _ _ => vts_nil) (fun _ _ _ _ _ => (ve_frz (vn_call (Ts := [3, 0]) (ok__law_read_by A) (hr.mono (by decide)) rfl A.m__law_read_by A.F__law_read_by.kp A.b__law_read_by (va_cons (ve_var 3) (va_cons (ve_var 0) va_nil))))))) (ve_frz (vn_comp (own := [("one", 4)]) rfl sc__law_right.nd (vi_seq (ve_var 2)) (blkOk_by (own := [("one", 4)]) (N := N__law_right) (sc := defScope st__law_right) (by decide +kernel)) (fun _ _ _ _ _ => (vg_name (i := 4) sc__law_right.nd)) (by decide) (fun _ _ _ _ _ => vts_nil) (fun _ _ _ _ _ => (ve_if (vt_cmp op_isN ok_isND (ve_var 4) ve_non (nomark _)) (ve_strC e_x4e6f546578742b) (ve_var 4))))) (nomark _)))))))
noncomputable abbrev N_law : List Str := ["script", "k", "bag", "sign", "card", "texts", "text", "turn", "thing", "way"]
theorem sc_law : FnScope N_law ["script"] (defScope st_law) := ⟨rfl, rfl, rfl, by decide +kernel, rfl, by decide +kernel, by decide +kernel⟩
theorem ok_law (A : All K w mg a) : FnOk P w K mg base (L2N.CX P w) 9 a.f_law a.d_law ["script"] (spV K (WxR mg) 1 F_law) :=
  fn_okR (k := 8) A.F_law sc_law fun cdv Ar outer s H E hr tk po => by
   have A := A
   exact (vss_cons (vs_for po rfl (vi_range1 (by rfl) A.n_range (va_cons (ve_add ve_int (ve_callB (call_min2 rfl) ok_min2D (by rfl) A.n_min (by decide +kernel) (va_cons (ve_callB call_len ok_lenD (by rfl) A.n_len (by decide +kernel) (va_cons (ve_var 0) va_nil)) (va_cons ve_int va_nil)))) va_nil)) (vg_name (i := 1) sc_law.nd) (vss_cons (vs_setN (i := 2) sc_law.nd (vn_call (Ts := [0, 1]) (ok__law_bag A) (hr.mono (by decide)) rfl A.m__law_bag A.F__law_bag.kp A.b__law_bag (va_cons (ve_var 0) (va_cons (ve_var 1) va_nil))))
    (vss_cons (vs_set (i := 3) sc_law.nd (ve_frz (vn_call (Ts := [2]) (ok__law_sign A) (hr.mono (by decide)) rfl A.m__law_sign A.F__law_sign.kp A.b__law_sign (va_cons (ve_var 2) va_nil))))
    (vss_cons (vs_set (i := 4) sc_law.nd (ve_frz (vn_call (Ts := [2]) (ok__law_card A) (hr.mono (by decide)) rfl A.m__law_card A.F__law_card.kp A.b__law_card (va_cons (ve_var 2) (va_cons ve_int va_nil)))))
    (vss_cons (vs_set (i := 5) sc_law.nd (ve_frz (vn_lst (va_cons (ve_frz (vn_call (Ts := [3]) (ok__law_sign_text A) (hr.mono (by decide)) rfl A.m__law_sign_text A.F__law_sign_text.kp A.b__law_sign_text (va_cons (ve_var 3) va_nil))) (va_cons (ve_cut (ve_frz (vn_call (Ts := [3]) (ok__law_sign_text A) (hr.mono (by decide)) rfl A.m__law_sign_text A.F__law_sign_text.kp A.b__law_sign_text (va_cons (ve_var 3) va_nil))) (vo_some ve_int) vo_none) (va_cons (ve_frz (vn_call (Ts := [4]) (ok__law_card_text A) (hr.mono (by decide)) rfl A.m__law_card_text A.F__law_card_text.kp A.b__law_card_text (va_cons (ve_var 4) va_nil))) va_nil))))))
    (vss_cons (vs_if (vt_cmp (op_neD hr.units) ok_neD (ve_frz (vn_lst (va_cons (ve_frz (vn_call (Ts := [3]) (ok_sign_text A) (hr.mono (by decide)) rfl A.m_sign_text A.F_sign_text.kp A.b_sign_text (va_cons (ve_var 3) va_nil))) (va_cons (ve_frz (vn_call (Ts := []) (ok_showing_text A) (hr.mono (by decide)) rfl A.m_showing_text A.F_showing_text.kp A.b_showing_text (va_cons (ve_cut (ve_var 3) (vo_some ve_int) vo_none) va_nil))) (va_cons (ve_frz (vn_call (Ts := [4]) (ok_card_text A) (hr.mono (by decide)) rfl A.m_card_text A.F_card_text.kp A.b_card_text (va_cons (ve_var 4) va_nil))) va_nil))))) (ve_var 5) (nomark _)) (vss_one (vs_ret (vn_dat ve_bl))) vss_nil)
    (vss_cons (vs_if (vt_cmp (op_neD hr.units) ok_neD (ve_frz (vn_lst (va_cons (ve_frz (vn_callR (Ts := []) (ok_read_sign A) (hr.mono (by decide)) tk rfl A.m_read_sign A.F_read_sign.kp A.b_read_sign (va_cons (ve_ix (ve_var 5) ve_int) va_nil))) (va_cons (ve_frz (vn_callR (Ts := []) (ok_read_showing A) (hr.mono (by decide)) tk rfl A.m_read_showing A.F_read_showing.kp A.b_read_showing (va_cons (ve_ix (ve_var 5) ve_int) va_nil))) (va_cons (ve_frz (vn_callR (Ts := []) (ok_read_card A) (hr.mono (by decide)) tk rfl A.m_read_card A.F_read_card.kp A.b_read_card (va_cons (ve_ix (ve_var 5) ve_int) va_nil))) va_nil))))) (ve_frz (vn_lst (va_cons (ve_var 3) (va_cons (ve_cut (ve_var 3) (vo_some ve_int) vo_none) (va_cons (ve_var 4) va_nil))))) (nomark _)) (vss_one (vs_ret (vn_dat ve_bl))) vss_nil)
    (vss_cons (vs_for po rfl (vi_seq (ve_var 5)) (vg_name (i := 6) sc_law.nd) (vss_one (vs_for po rfl (vi_range1 (by rfl) A.n_range (va_cons ve_int va_nil)) (vg_name (i := 7) sc_law.nd) (vss_cons (vs_set (i := 6) sc_law.nd (ve_frz (vn_call (Ts := [2, 6]) (ok__law_bent A) (hr.mono (by decide)) rfl A.m__law_bent A.F__law_bent.kp A.b__law_bent (va_cons (ve_var 2) (va_cons (ve_var 6) (va_cons (ve_frz (vn_lst (va_cons (ve_strC e_0) (va_cons (ve_strC e_5) (va_cons (ve_strC e_b) (va_cons (ve_strC e_s) (va_cons (ve_strC e_x78) (va_cons (ve_strC e_c) (va_cons (ve_strC e_w) (va_cons (ve_strC e_to) (va_cons (ve_strC e_from) (va_cons (ve_strC e_x20) va_nil)))))))))))) va_nil))))))
    (vss_one (vs_if (vt_not (vt_val (ve_frz (vn_call (Ts := [6]) (ok__law_right A) (hr.mono (by decide)) rfl A.m__law_right A.F__law_right.kp A.b__law_right (va_cons (ve_var 6) va_nil))))) (vss_one (vs_ret (vn_dat ve_bl))) vss_nil))))))
    (vss_one (vs_for po rfl (vi_seq (ve_frz (vn_lst (va_cons ve_non (va_cons ve_int (va_cons ve_bl (va_cons (ve_var 3) (va_cons (ve_frz (vn_lst (va_cons (ve_ix (ve_var 5) ve_int) va_nil))) (va_cons (ve_tup (va_cons (ve_ix (ve_var 5) ve_int) va_nil)) (va_cons (ve_strC e_x) (va_cons (ve_strC e_x20) va_nil))))))))))) (vg_name (i := 8) sc_law.nd) (vss_one (vs_if (vt_cmp (op_neD hr.units) ok_neD (ve_frz (vn_comp (own := [("way", 9)]) rfl sc_law.nd (vi_range1 (by rfl) A.n_range (va_cons ve_int va_nil)) (blkOk_by (own := [("way", 9)]) (N := N_law) (sc := defScope st_law) (by decide +kernel)) (fun _ _ _ _ _ => (vg_name (i := 9) sc_law.nd)) (by decide) (fun _ _ _ _ _ => vts_nil) (fun _ _ _ _ _ => (ve_frz (vn_call (Ts := [9, 8]) (ok__law_read_by A) (hr.mono (by decide)) rfl A.m__law_read_by A.F__law_read_by.kp A.b__law_read_by (va_cons (ve_var 9) (va_cons (ve_var 8) va_nil))))))) (ve_rep (ve_frz (vn_lst (va_cons (ve_strC e_x4e6f546578742b) va_nil))) ve_int) (nomark _)) (vss_one (vs_ret (vn_dat ve_bl))) vss_nil))))))))))))
    (vss_one (vs_ret (vn_dat ve_bl))))
end
end K24

end

section
set_option Elab.async false
set_option linter.all false
set_option maxRecDepth 100000
namespace VL
open PySem PySem.Spec PyProof.Rows L2
section
variable {ρ : Rho}
@[simp] theorem okM_nMv {i : Nat} {Q : Tr → Rho → Prop} : okM (nMv i ρ) Q ↔ okO (match ρ[i]? with
  | some (.own .free t) => some t
  | _ => none) fun t => Q t (ρ.set i (.own .free .hole)) := by
  unfold nMv
  cases h : ρ[i]? with
  | none => simp
  | some s =>
    cases s with
    | own m t => cases m <;> simp
    | _ => simp
noncomputable def flatAt (ρ : Rho) (r : Nat × List Nat) : Option (List PyData) := match treeAt ρ r with
  | some (.lst ts) => flat ts
  | _ => none
@[simp] theorem okM_cCutP {Ts : List Nat} {f : M (Nat × List Nat)} {fl fh : M (Option Int)} {Q : Rv → Rho → Prop} : okM (cCutP Ts f fl fh ρ) Q ↔ okM (f ρ) fun r ρ1 => okM (fl ρ1) fun lo ρ2 => okM (fh ρ2) fun hi ρ3 => Ts.contains r.1 = false ∧ okO (flatAt ρ3 r) fun ds => okO (cutD (.list ds) lo hi) fun z => Q (.d z) ρ3 := by
  unfold cCutP
  simp only [okM_bnd]
  have e : ∀ (r : Nat × List Nat) (lo hi : Option Int) (ρ3 : Rho), okM (cutP1 Ts r lo hi ρ3) Q ↔ Ts.contains r.1 = false ∧ okO (flatAt ρ3 r) fun ds => okO (cutD (.list ds) lo hi) fun z => Q (.d z) ρ3 := fun r lo hi ρ3 => by
    unfold cutP1 flatAt
    by_cases h : Ts.contains r.1 = true
    · rw [if_pos h, h]; simp
    · rw [if_neg h]
      have h' : Ts.contains r.1 = false := by simpa using h
      rw [h']
      simp only [true_and]
      cases hq : treeAt ρ3 r with
      | none => simp
      | some t =>
        cases t with
        | lst ts =>
          simp only
          cases q : flat ts with
          | none => simp
          | some ds =>
            simp only [okO_some]
            cases hz : cutD (.list ds) lo hi <;> simp
        | _ => simp
  simp only [e]
@[simp] theorem okM_cIsiP {B : BT} {f : M (Nat × List Nat)} {Q : Rv → Rho → Prop} : okM (cIsiP B f ρ) Q ↔ okM (f ρ) fun r ρ1 => okO ((treeAt ρ1 r).bind Tr.toD) fun d => okO (isiD B d) fun b => Q (.d (.bool b)) ρ1 := by
  unfold cIsiP
  rw [okM_bnd]
  refine okM_congr fun r ρ1 => ?_
  cases (treeAt ρ1 r).bind Tr.toD with
  | none => simp
  | some d => cases h : isiD B d <;> simp [h]
end
end VL

end

section
set_option Elab.async false
set_option linter.all false
set_option maxRecDepth 100000
namespace VL
open PySem PySem.Spec PyProof.Rows L2
section
variable {ρ : Rho} {P : Out → Prop}
noncomputable def fldIx (c f : Str) : Option Tr → Option Nat
  | some (.ins c' fs) => if c' = c then keyIx f fs else none
  | _ => none
@[simp] theorem okM_pFld {c f : Str} {g : M (Nat × List Nat)} {Q : Nat × List Nat → Rho → Prop} : okM (pFld c f g ρ) Q ↔ okM (g ρ) fun r ρ1 => okO (fldIx c f (treeAt ρ1 r)) fun j => Q (r.1, r.2 ++ [j]) ρ1 := by
  unfold pFld
  rw [okM_bnd]
  refine okM_congr fun r ρ1 => ?_
  unfold fldIx
  cases h : treeAt ρ1 r with
  | none => simp
  | some t =>
    cases t with
    | ins c' fs =>
      simp only
      by_cases e : c' = c
      · rw [if_pos e, if_pos e]
        cases keyIx f fs <;> simp
      · rw [if_neg e, if_neg e]; simp
    | _ => simp
@[simp] theorem okM_meth {c m : Str} {Ts : List Nat} {n i : Nat} {G : Fn} {fs : M (List Rv)} {Q : Tr → Rho → Prop} : okM (nMeth c m Ts n G i fs ρ) Q ↔ isCls c m ρ i = true ∧ okM (fs ρ) fun xs ρ1 => okM (callR Ts n G (.o i :: xs) ρ1) Q := by
  unfold nMeth
  by_cases h : isCls c m ρ i = true
  · rw [if_pos h, okM_bnd]; simp [h]
  · rw [if_neg h]; simp [h]
@[simp] theorem okM_dictC {f : M (Nat × List Nat)} {Q : Tr → Rho → Prop} : okM (nDictC f ρ) Q ↔ okM (f ρ) fun r ρ1 => okO (match treeAt ρ1 r with
  | some (.dk kvs) => dats kvs
  | _ => none) fun ds => Q (.dk (toT ds)) ρ1 := by
  unfold nDictC
  rw [okM_bnd]
  refine okM_congr fun r ρ1 => ?_
  cases h : treeAt ρ1 r with
  | none => simp
  | some t =>
    cases t with
    | dk kvs => simp only; cases dats kvs <;> simp
    | _ => simp
@[simp] theorem okM_listC {f : M (Nat × List Nat)} {Q : Tr → Rho → Prop} : okM (nListC f ρ) Q ↔ okM (f ρ) fun r ρ1 => okO (flatAt ρ1 r) fun ds => Q (.lst (ds.map .dat)) ρ1 := by
  unfold nListC flatAt
  rw [okM_bnd]
  refine okM_congr fun r ρ1 => ?_
  cases h : treeAt ρ1 r with
  | none => simp
  | some t =>
    cases t with
    | lst ts => simp only; cases flat ts <;> simp
    | _ => simp
@[simp] theorem okM_copyDs {v : Nat} {f : M (Nat × List Nat)} {Q : Tr → Rho → Prop} : okM (nCopyDs v f ρ) Q ↔ okM (f ρ) fun r ρ1 => okO (match treeAt ρ1 r with
  | some (.lst ts) => copies ts
  | _ => none) fun dss => (v < ρ1.length ∧ small dss.length = true) ∧ Q (.lst (copyT dss)) ρ1 := by
  unfold nCopyDs
  rw [okM_bnd]
  refine okM_congr fun r ρ1 => ?_
  cases h : treeAt ρ1 r with
  | none => simp
  | some t =>
    cases t with
    | lst ts =>
      simp only
      cases copies ts with
      | none => simp
      | some dss =>
        simp only [okO_some]
        by_cases h : v < ρ1.length ∧ small dss.length = true
        · rw [if_pos (by simpa using h)]; simp only [okM_ok, h, true_and]
        · rw [if_neg (by simpa using h)]
          simp only [okM_none, false_iff]
          exact fun z => h z.1
    | _ => simp
@[simp] theorem okM_mvP {Ts : List Nat} {f : M (Nat × List Nat)} {Q : Tr → Rho → Prop} : okM (nMvP Ts f ρ) Q ↔ okM (f ρ) fun r ρ1 => (Ts.contains r.1 = true ∧ modeOk ρ1 r.1 = true) ∧ okO (treeAt ρ1 r) fun t => Q t (putAt ρ1 r .hole) := by
  unfold nMvP
  rw [okM_bnd]
  refine okM_congr fun r ρ1 => ?_
  rw [← Bool.and_eq_true]
  split
  · rename_i h
    simp only [h, true_and]
    cases treeAt ρ1 r <;> simp
  · rename_i h
    simp only [okM_none, false_iff]
    exact fun z => h z.1
@[simp] theorem okM_popT {Ts : List Nat} {f : M (Nat × List Nat)} {Q : Tr → Rho → Prop} : okM (nPopT Ts f ρ) Q ↔ okM (f ρ) fun r ρ1 => (Ts.contains r.1 = true ∧ modeOk ρ1 r.1 = true) ∧ okO (match treeAt ρ1 r with
  | some (.lst ts) => ts.getLast?.map fun t => (ts, t)
  | _ => none) fun p => Q p.2 (putAt ρ1 r (.lst p.1.dropLast)) := by
  unfold nPopT
  rw [okM_bnd]
  refine okM_congr fun r ρ1 => ?_
  rw [← Bool.and_eq_true]
  split
  · rename_i h
    simp only [h, true_and]
    cases h : treeAt ρ1 r with
    | none => simp
    | some t =>
      cases t with
      | lst ts => simp only; cases ts.getLast? <;> simp
      | _ => simp
  · rename_i h
    simp only [okM_none, false_iff]
    exact fun z => h z.1
@[simp] theorem okM_cEmp {f : M (Nat × List Nat)} {g : M Tr} {Q : Bool → Rho → Prop} : okM (cEmp f g ρ) Q ↔ okM (f ρ) fun r ρ1 => okM (g ρ1) fun tn ρ2 => okO (match treeAt ρ2 r, tn with
  | some (.lst ts), .lst [] => some ts.isEmpty
  | _, _ => none) fun b => Q b ρ2 := by
  unfold cEmp
  rw [okM_bnd]
  refine okM_congr fun r ρ1 => ?_
  rw [okM_bnd]
  refine okM_congr fun tn ρ2 => ?_
  split <;> simp_all
@[simp] theorem okM_lenP {f : M (Nat × List Nat)} {Q : Rv → Rho → Prop} : okM (cLenP f ρ) Q ↔ okM (f ρ) fun r ρ1 => okO (match treeAt ρ1 r with
  | some (.lst ts) => some ts.length
  | _ => none) fun n => Q (.d (.int n)) ρ1 := by
  unfold cLenP
  rw [okM_bnd]
  refine okM_congr fun r ρ1 => ?_
  cases h : treeAt ρ1 r with
  | none => simp
  | some t => cases t <;> simp
@[simp] theorem okM_lNil {Q : List LA → Rho → Prop} : okM (lNil ρ) Q ↔ Q [] ρ := okM_ok
@[simp] theorem okM_lD {f : M Rv} {g : M (List LA)} {Q : List LA → Rho → Prop} : okM (lD f g ρ) Q ↔ okM (f ρ) fun x ρ1 => okM (g ρ1) fun ls ρ2 => okO (rvd x) fun d => Q (.d d :: ls) ρ2 := by
  unfold lD
  rw [okM_bnd]
  refine okM_congr fun x ρ1 => ?_
  rw [okM_bnd]
  refine okM_congr fun ls ρ2 => ?_
  cases x <;> simp [rvd]
@[simp] theorem okM_lP {f : M (Nat × List Nat)} {g : M (List LA)} {Q : List LA → Rho → Prop} : okM (lP f g ρ) Q ↔ okM (f ρ) fun r ρ1 => okM (g ρ1) fun ls ρ2 => Q (.p r :: ls) ρ2 := by
  unfold lP
  simp only [okM_bnd, okM_ret]
@[simp] theorem okM_dtNil {Q : List (Key × Tr) → Rho → Prop} : okM (dtNil ρ) Q ↔ Q [] ρ := okM_ok
@[simp] theorem okM_dtCons {k : Key} {f : M Tr} {g : M (List (Key × Tr))} {Q : List (Key × Tr) → Rho → Prop} : okM (dtCons k f g ρ) Q ↔ okM (f ρ) fun t ρ1 => okM (g ρ1) fun ts ρ2 => Q ((k, t) :: ts) ρ2 := by
  unfold dtCons
  simp only [okM_bnd, okM_ret]
@[simp] theorem okM_disp {f : M (List (Key × Tr))} {Q : Tr → Rho → Prop} : okM (nDisp f ρ) Q ↔ okM (f ρ) fun kts ρ1 => (kts.length ≤ 15 ∧ (kts.map (·.1)).Nodup) ∧ Q (.dk kts) ρ1 := by
  unfold nDisp
  rw [okM_bnd]
  refine okM_congr fun kts ρ1 => ?_
  by_cases h : kts.length ≤ 15 ∧ (kts.map (·.1)).Nodup
  · rw [if_pos (by simpa using h)]; simp [h]
  · rw [if_neg (by simpa using h)]
    simp only [okM_none, false_iff]
    exact fun z => h z.1
end
end VL

end

section
set_option Elab.async false
set_option linter.all false
set_option maxRecDepth 100000
namespace VR
open PySem PySem.Spec PyProof.Rows L2 VL
noncomputable def cvS (i : Nat) (ρ : Rho) : Option Sl → Option (Er Rv)
  | some (.val d) => some (.ok (.d d) ρ)
  | some (.own _ (.dat d)) => some (.ok (.d d) ρ)
  | some (.own _ _) => some (.ok (.o i) ρ)
  | _ => none
theorem ap_cVar {i : Nat} {ρ : Rho} : cVar i ρ = cvS i ρ ρ[i]? := rfl
section
variable {i : Nat} {ρ : Rho} {m : Md}
theorem cv_val {d : PyData} : cvS i ρ (some (.val d)) = some (.ok (.d d) ρ) := rfl
theorem cv_dat {d : PyData} : cvS i ρ (some (.own m (.dat d))) = some (.ok (.d d) ρ) := rfl
theorem cv_tup {ts : List Tr} : cvS i ρ (some (.own m (.tup ts))) = some (.ok (.o i) ρ) := rfl
theorem cv_lst {ts : List Tr} : cvS i ρ (some (.own m (.lst ts))) = some (.ok (.o i) ρ) := rfl
theorem cv_dk {ts : List (Key × Tr)} : cvS i ρ (some (.own m (.dk ts))) = some (.ok (.o i) ρ) := rfl
end
theorem mrg1_val {d : PyData} {o : Option Sl} : mrg1 (.val d) o = .val d := by cases o <;> rfl
theorem mrg1_own {m m' : Md} {t t' : Tr} : mrg1 (.own m t) (some (.own m' t')) = .own m'.unb t' := rfl
theorem mrg_nil {os : List Sl} : mrg [] os = [] := rfl
theorem mrg_cons {a : Sl} {as os : List Sl} : mrg (a :: as) os = mrg1 a os.head? :: mrg as os.tail := rfl
theorem wb_ds (ds : List PyData) {ρ : Rho} {os : List Sl} : wb ρ (ds.map .d) os = ρ := by
  refine List.ext_getElem? fun j => ?_
  rw [wb_get, pure_2]
  cases ρ[j]? <;> rfl
section
variable {ρ : Rho} {os : List Sl} {a b c d e f : PyData}
theorem wb_d0 : wb ρ [] os = ρ := wb_ds []
theorem wb_d1 : wb ρ [.d a] os = ρ := wb_ds [a]
theorem wb_d2 : wb ρ [.d a, .d b] os = ρ := wb_ds [a, b]
theorem wb_d3 : wb ρ [.d a, .d b, .d c] os = ρ := wb_ds [a, b, c]
theorem wb_d4 : wb ρ [.d a, .d b, .d c, .d d] os = ρ := wb_ds [a, b, c, d]
theorem wb_d5 : wb ρ [.d a, .d b, .d c, .d d, .d e] os = ρ := wb_ds [a, b, c, d, e]
end
theorem backOk_nil {os : List Sl} : backOk [] os = true := by cases os <;> rfl
theorem backOk_val {d : PyData} {s : Sl} {as os : List Sl} : backOk (.val d :: as) (s :: os) = backOk as os := rfl
theorem backOk_own {m m' : Md} {t t' : Tr} {as os : List Sl} : backOk (.own m t :: as) (.own m' t' :: os) = backOk as os := rfl
theorem der_d {ρ : Rho} {d : PyData} : der ρ (.d d) = some d := rfl
theorem derS_d {ρ : Rho} {d : PyData} : derS ρ (.d d) = some d := rfl
theorem argSl_d {ρ : Rho} {d : PyData} : argSl ρ (.d d) = some (.val d) := rfl
theorem kd_str {w : Str} : keyD (.str w) = some (.inr w) := rfl
theorem kd_int {i : Int} : keyD (.int i) = some (.inl i) := rfl
theorem ixN_nat {m n : Nat} (h : n < m) : ixN m (n : Int) = some n := by
  unfold ixN
  simp
  omega
theorem eqI {a b : Int} : eqD (.int a) (.int b) = some (decide (a = b)) := by
  show (if SeqAt.shaped (.int a) && SeqAt.shaped (.int b) then some (PyData.eqv (.int a) (.int b)) else none) = _
  rw [shaped_int, shaped_int]
  show some (a == b) = _
  congr 1
theorem neI {a b : Int} : neD (.int a) (.int b) = some (!decide (a = b)) := by
  show (if SeqAt.shaped (.int a) && SeqAt.shaped (.int b) then some (!PyData.eqv (.int a) (.int b)) else none) = _
  rw [shaped_int, shaped_int]
  show some (!(a == b)) = _
  congr 2
theorem ltI {a b : Int} : ltD (.int a) (.int b) = some (decide (a < b)) := rfl
theorem leI {a b : Int} : leD (.int a) (.int b) = some (decide (a ≤ b)) := rfl
theorem gtI {a b : Int} : gtD (.int a) (.int b) = some (decide (a > b)) := rfl
theorem geI {a b : Int} : geD (.int a) (.int b) = some (decide (a ≥ b)) := rfl
theorem addI {a b : Int} : addD (.int a) (.int b) = some (.int (a + b)) := rfl
theorem subtI {a b : Int} : subtD (.int a) (.int b) = some (.int (a - b)) := rfl
section
variable {x0 x1 x2 x3 x4 x5 x6 x7 : PyData} {xs : List PyData}
theorem sub0 : subD (.tuple (x0 :: xs)) (.int 0) = some x0 := by
  show atI (x0 :: xs) 0 = _
  unfold atI
  have : ixN (x0 :: xs).length 0 = some 0 := ixN_nat (n := 0) (by simp)
  rw [this]; rfl
theorem sub1 : subD (.tuple (x0 :: x1 :: xs)) (.int 1) = some x1 := by
  show atI (x0 :: x1 :: xs) 1 = _
  unfold atI
  have : ixN (x0 :: x1 :: xs).length 1 = some 1 := ixN_nat (n := 1) (by simp)
  rw [this]; rfl
theorem sub2 : subD (.tuple (x0 :: x1 :: x2 :: xs)) (.int 2) = some x2 := by
  show atI (x0 :: x1 :: x2 :: xs) 2 = _
  unfold atI
  have : ixN (x0 :: x1 :: x2 :: xs).length 2 = some 2 := ixN_nat (n := 2) (by simp)
  rw [this]; rfl
theorem sub3 : subD (.tuple (x0 :: x1 :: x2 :: x3 :: xs)) (.int 3) = some x3 := by
  show atI (x0 :: x1 :: x2 :: x3 :: xs) 3 = _
  unfold atI
  have : ixN (x0 :: x1 :: x2 :: x3 :: xs).length 3 = some 3 := ixN_nat (n := 3) (by simp)
  rw [this]; rfl
theorem sub4 : subD (.tuple (x0 :: x1 :: x2 :: x3 :: x4 :: xs)) (.int 4) = some x4 := by
  show atI (x0 :: x1 :: x2 :: x3 :: x4 :: xs) 4 = _
  unfold atI
  have : ixN (x0 :: x1 :: x2 :: x3 :: x4 :: xs).length 4 = some 4 := ixN_nat (n := 4) (by simp)
  rw [this]; rfl
theorem sub5 : subD (.tuple (x0 :: x1 :: x2 :: x3 :: x4 :: x5 :: xs)) (.int 5) = some x5 := by
  show atI (x0 :: x1 :: x2 :: x3 :: x4 :: x5 :: xs) 5 = _
  unfold atI
  have : ixN (x0 :: x1 :: x2 :: x3 :: x4 :: x5 :: xs).length 5 = some 5 := ixN_nat (n := 5) (by simp)
  rw [this]; rfl
end
theorem sm0 : small 0 = true := small_of (by decide)
theorem sm1 : small 1 = true := small_of (by decide)
theorem sm2 : small 2 = true := small_of (by decide)
theorem sm3 : small 3 = true := small_of (by decide)
theorem sm4 : small 4 = true := small_of (by decide)
theorem sm5 : small 5 = true := small_of (by decide)
theorem sm6 : small 6 = true := small_of (by decide)
theorem sm7 : small 7 = true := small_of (by decide)
theorem sm8 : small 8 = true := small_of (by decide)
theorem sm9 : small 9 = true := small_of (by decide)
theorem pref {p q : List Nat} : p.isPrefixOf (p ++ q) = true := List.isPrefixOf_iff_prefix.mpr ⟨q, rfl⟩
theorem pref0 {p : List Nat} : p.isPrefixOf p = true := List.isPrefixOf_iff_prefix.mpr ⟨[], by simp⟩
theorem toD_d {d : PyData} : Tr.toD (.dat d) = some d := rfl
end VR

end

section
set_option Elab.async false
set_option linter.all false
set_option maxRecDepth 100000
namespace VR
open PySem PySem.Spec PyProof.Rows L2 VL
theorem ap_bnd {α β : Type} {f : M α} {k : α → M β} {ρ : Rho} : bnd f k ρ = (fun ρ => match f ρ with
  | some (.ok a ρ1) => k a ρ1
  | some (.ex c ρ1) => some (.ex c ρ1)
  | none => none) ρ := rfl
theorem ap_ret {α : Type} {a : α} {ρ : Rho} : VL.ret a ρ = (fun ρ => some (.ok a ρ)) ρ := rfl
theorem ap_cD {x : PyData} {ρ : Rho} : cD x ρ = (VL.ret (.d x)) ρ := rfl
theorem ap_cDGet {T2 : List Nat} {f : M (Nat × List Nat)} {fk : M Rv} {ρ : Rho} : cDGet T2 f fk ρ = (bnd f fun r => bnd fk (dGet1 T2 r)) ρ := rfl
theorem ap_dGet1 {T2 : List Nat} {r : Nat × List Nat} {y : Rv} {ρ : Rho} : dGet1 T2 r y ρ = (fun ρ => if T2.contains r.1 then none else match y, treeAt ρ r with
  | .d d, some t => (match dictAt t d with
    | some (some z) => some (.ok (.d z) ρ)
    | _ => none)
  | _, _ => none) ρ := rfl
theorem ap_cBin {g : PyData → PyData → Option PyData} {fa fb : M Rv} {ρ : Rho} : cBin g fa fb ρ = (bnd fa fun x => bnd fb fun y => bin1 g x y) ρ := rfl
theorem ap_bin1 {g : PyData → PyData → Option PyData} {x y : Rv} {ρ : Rho} : bin1 g x y ρ = (fun ρ => match derS ρ x, derS ρ y with
  | some a, some b => (match g a b with
    | some z => some (.ok (.d z) ρ)
    | none => none)
  | _, _ => none) ρ := rfl
theorem ap_cCmp {g : PyData → PyData → Option Bool} {fa fb : M Rv} {ρ : Rho} : cCmp g fa fb ρ = (bnd fa fun x => bnd fb fun y => binD g x y) ρ := rfl
theorem ap_binD {g : PyData → PyData → Option Bool} {x y : Rv} {ρ : Rho} : binD g x y ρ = (fun ρ => match der ρ x, der ρ y with
  | some a, some b => (match g a b with
    | some z => some (.ok z ρ)
    | none => none)
  | _, _ => none) ρ := rfl
theorem ap_cOf {f : M Bool} {ρ : Rho} : cOf f ρ = (bnd f fun b => VL.ret (.d (.bool b))) ρ := rfl
theorem ap_cChain {g g' : PyData → PyData → Option Bool} {fa fb fc : M Rv} {ρ : Rho} : cChain g g' fa fb fc ρ = (bnd fa fun x => bnd fb fun y => bnd (binD g x y) fun k => if k then bnd fc fun z => binD g' y z else VL.ret false) ρ := rfl
theorem ap_cTest {f : M Rv} {ρ : Rho} : cTest f ρ = (bnd f fun x => fun ρ => match asB ρ x with
  | some b => some (.ok b ρ)
  | none => none) ρ := rfl
theorem ap_cNot {f : M Bool} {ρ : Rho} : cNot f ρ = (bnd f fun b => VL.ret (!b)) ρ := rfl
theorem ap_cAnd {f g : M Bool} {ρ : Rho} : cAnd f g ρ = (bnd f fun b => if b then g else VL.ret false) ρ := rfl
theorem ap_cOr {f g : M Bool} {ρ : Rho} : cOr f g ρ = (bnd f fun b => if b then VL.ret true else g) ρ := rfl
theorem ap_cAndV {f : M Rv} {g : M Rv} {ρ : Rho} : cAndV f g ρ = (bnd (cTest f) fun b => if b then g else VL.ret (.d (.bool false))) ρ := rfl
theorem ap_cOrV {f : M Rv} {g : M Rv} {ρ : Rho} : cOrV f g ρ = (bnd (cTest f) fun b => if b then VL.ret (.d (.bool true)) else g) ρ := rfl
theorem ap_cNotV {f : M Rv} {ρ : Rho} : cNotV f ρ = (bnd (cTest f) fun b => VL.ret (.d (.bool (!b)))) ρ := rfl
theorem ap_cIf {α : Type} {c : M Bool} {f g : M α} {ρ : Rho} : cIf c f g ρ = (bnd c fun b => if b then f else g) ρ := rfl
theorem ap_cTup {fs : M (List Rv)} {ρ : Rho} : cTup fs ρ = (bnd fs mkTup) ρ := rfl
theorem ap_mkTup {rs : List Rv} {ρ : Rho} : mkTup rs ρ = (fun ρ => match datas rs with
  | some ds => if small ds.length then some (.ok (.d (.tuple ds)) ρ) else none
  | none => none) ρ := rfl
theorem ap_aNil  {ρ : Rho} : aNil  ρ = (VL.ret []) ρ := rfl
theorem ap_aCons {f : M Rv} {g : M (List Rv)} {ρ : Rho} : aCons f g ρ = (bnd f fun x => bnd g fun xs => VL.ret (x :: xs)) ρ := rfl
theorem ap_nDat {f : M Rv} {ρ : Rho} : nDat f ρ = (bnd f fun x => fun ρ => match x with
  | .d d => some (.ok (.dat d) ρ)
  | .o _ => none) ρ := rfl
theorem ap_nLst {fs : M (List Rv)} {ρ : Rho} : nLst fs ρ = (bnd fs mkLst) ρ := rfl
theorem ap_mkLst {rs : List Rv} {ρ : Rho} : mkLst rs ρ = (fun ρ => match datas rs with
  | some ds => if small ds.length then some (.ok (.lst (ds.map .dat)) ρ) else none
  | none => none) ρ := rfl
theorem ap_cFrz {f : M Tr} {ρ : Rho} : cFrz f ρ = (bnd f fun t => fun ρ => match t.toD with
  | some d => some (.ok (.d d) ρ)
  | none => none) ρ := rfl
theorem ap_cLeaf {f : M (Nat × List Nat)} {ρ : Rho} : cLeaf f ρ = (bnd f fun r => fun ρ => match treeAt ρ r with
  | some (.dat d) => some (.ok (.d d) ρ)
  | _ => none) ρ := rfl
theorem ap_cLenP {f : M (Nat × List Nat)} {ρ : Rho} : cLenP f ρ = (bnd f fun r => fun ρ => match treeAt ρ r with
  | some (.lst ts) => some (.ok (.d (.int ts.length)) ρ)
  | _ => none) ρ := rfl
theorem ap_cCall {g : List PyData → Option PyData} {fs : M (List Rv)} {ρ : Rho} : cCall g fs ρ = (bnd fs (call1 g)) ρ := rfl
theorem ap_call1 {g : List PyData → Option PyData} {rs : List Rv} {ρ : Rho} : call1 g rs ρ = (fun ρ => match derSs ρ rs with
  | some ds => (match g ds with
    | some z => some (.ok (.d z) ρ)
    | none => none)
  | none => none) ρ := rfl
theorem ap_cNeg {f : M Rv} {ρ : Rho} : cNeg f ρ = (bnd f fun x => fun ρ => match x with
  | .d (.int i) => some (.ok (.d (.int (-i))) ρ)
  | _ => none) ρ := rfl
theorem ap_nNew {t : Tr} {ρ : Rho} : nNew t ρ = (VL.ret t) ρ := rfl
theorem ap_nMeth {c m : Str} {Ts : List Nat} {k : Nat} {G : Fn} {i : Nat} {fs : M (List Rv)} {ρ : Rho} : nMeth c m Ts k G i fs ρ = (fun ρ => if isCls c m ρ i then bnd fs (fun xs => callR Ts k G (.o i :: xs)) ρ else none) ρ := rfl
theorem ap_nMethK {c m : Str} {Ts : List Nat} {k : Nat} {G : Fn} {i j : Nat} {fs : M (List Rv)} {ρ : Rho} : nMethK c m Ts k G i j fs ρ = (fun ρ => if isCls c m ρ i then bnd fs (fun xs => callK Ts k G i j (.o i :: xs)) ρ else none) ρ := rfl
theorem ap_callK {Ts : List Nat} {m : Nat} {f : Fn} {i j : Nat} {rs : List Rv} {ρ : Rho} : callK Ts m f i j rs ρ = (fun ρ => match ρ[i]? with
  | some (.own (.bor p) t) => if isAl ρ[j]? then (match callR Ts m f rs (killA ρ i j t) with
    | some (.ok r ρ1) => (match backA ρ1 i p with
      | some ρ2 => some (.ok r ρ2)
      | none => none)
    | some (.ex c ρ1) => (match backA ρ1 i p with
      | some ρ2 => some (.ex c ρ2)
      | none => none)
    | none => none) else none
  | _ => none) ρ := rfl
theorem ap_nCall {Ts : List Nat} {m : Nat} {f : Fn} {fs : M (List Rv)} {ρ : Rho} : nCall Ts m f fs ρ = (bnd fs (callN Ts m f)) ρ := rfl
theorem ap_callN {Ts : List Nat} {m : Nat} {f : Fn} {rs : List Rv} {ρ : Rho} : callN Ts m f rs ρ = (fun ρ => match argSls ρ rs with
  | some args => if decide (rs.length = m) && (oneEach rs && allIn Ts rs) then (match f args with
    | some (.ret t, outs) => if backOk args (mrg args outs) then some (.ok t (wb ρ rs (mrg args outs))) else none
    | _ => none) else none
  | none => none) ρ := rfl
theorem ap_nCallR {Ts : List Nat} {m : Nat} {f : Fn} {fs : M (List Rv)} {ρ : Rho} : nCallR Ts m f fs ρ = (bnd fs (callR Ts m f)) ρ := rfl
theorem ap_callR {Ts : List Nat} {m : Nat} {f : Fn} {rs : List Rv} {ρ : Rho} : callR Ts m f rs ρ = (fun ρ => match argSls ρ rs with
  | some args => if decide (rs.length = m) && (oneEach rs && allIn Ts rs) then (match f args with
    | some (.ret t, outs) => if backOk args (mrg args outs) then some (.ok t (wb ρ rs (mrg args outs))) else none
    | some (.exc c, outs) => if backOk args (mrg args outs) then some (.ex c (wb ρ rs (mrg args outs))) else none
    | none => none) else none
  | none => none) ρ := rfl
theorem ap_cCut {f : M Rv} {fl fh : M (Option Int)} {ρ : Rho} : cCut f fl fh ρ = (bnd f fun x => bnd fl fun lo => bnd fh fun hi => cut1 x lo hi) ρ := rfl
theorem ap_cut1 {x : Rv} {lo hi : Option Int} {ρ : Rho} : cut1 x lo hi ρ = (fun ρ => match derS ρ x with
  | some d => (match cutD d lo hi with
    | some z => some (.ok (.d z) ρ)
    | none => none)
  | none => none) ρ := rfl
theorem ap_oNone  {ρ : Rho} : oNone  ρ = (VL.ret none) ρ := rfl
theorem ap_oSome {f : M Rv} {ρ : Rho} : oSome f ρ = (bnd f fun x => fun ρ => match x with
  | .d (.int i) => some (.ok (some i) ρ)
  | _ => none) ρ := rfl
theorem ap_cTab {tb : List (Str × PyData)} {f : M Rv} {ρ : Rho} : cTab tb f ρ = (bnd f (tabD tb)) ρ := rfl
theorem ap_tabD {tb : List (Str × PyData)} {x : Rv} {ρ : Rho} : tabD tb x ρ = (fun ρ => match x with
  | .d (.str z) => (match tb.lookup z with
    | some d => some (.ok (.d d) ρ)
    | none => none)
  | _ => none) ρ := rfl
theorem ap_cIsi {B : BT} {f : M Rv} {ρ : Rho} : cIsi B f ρ = (bnd f fun x => fun ρ => match der ρ x with
  | some d => (match isiD B d with
    | some b => some (.ok (.d (.bool b)) ρ)
    | none => none)
  | none => none) ρ := rfl
theorem ap_nCallP {G : Fn} {f : M (Nat × List Nat)} {ρ : Rho} : nCallP G f ρ = (bnd f fun r => fun ρ => match treeAt ρ r with
  | some t => (match G [.own .lock t] with
    | some (.ret (.dat d), _) => some (.ok (.dat d) ρ)
    | _ => none)
  | none => none) ρ := rfl
theorem ap_nLend {m : Nat} {f : Fn} {fs : M (List LA)} {ρ : Rho} : nLend m f fs ρ = (bnd fs (callL m f)) ρ := rfl
theorem ap_callL {m : Nat} {f : Fn} {ls : List LA} {ρ : Rho} : callL m f ls ρ = (fun ρ => match lendV ρ ls with
  | some ds => if ds.length = m then (match f (ds.map .val) with
    | some (.ret t, _) => if noLt t then some (.ok t ρ) else none
    | _ => none) else none
  | none => none) ρ := rfl
theorem ap_lP {f : M (Nat × List Nat)} {g : M (List LA)} {ρ : Rho} : lP f g ρ = (bnd f fun r => bnd g fun ls => VL.ret (.p r :: ls)) ρ := rfl
theorem ap_lD {f : M Rv} {g : M (List LA)} {ρ : Rho} : lD f g ρ = (bnd f fun x => bnd g fun ls => fun ρ => match x with
  | .d d => some (.ok (.d d :: ls) ρ)
  | _ => none) ρ := rfl
theorem ap_lNil  {ρ : Rho} : lNil  ρ = (VL.ret []) ρ := rfl
theorem ap_cDIn {neg : Bool} {fk : M Rv} {f : M (Nat × List Nat)} {ρ : Rho} : cDIn neg fk f ρ = (bnd fk fun y => bnd f (dIn1 neg y)) ρ := rfl
theorem ap_dIn1 {neg : Bool} {y : Rv} {r : Nat × List Nat} {ρ : Rho} : dIn1 neg y r ρ = (fun ρ => match y, treeAt ρ r with
  | .d d, some t => (match dictAt t d with
    | some z => some (.ok (if neg then !z.isSome else z.isSome) ρ)
    | none => none)
  | _, _ => none) ρ := rfl
theorem ap_cEmp {f : M (Nat × List Nat)} {g : M Tr} {ρ : Rho} : cEmp f g ρ = (bnd f fun r => bnd g fun tn => fun ρ => match treeAt ρ r, tn with
  | some (.lst ts), .lst [] => some (.ok ts.isEmpty ρ)
  | _, _ => none) ρ := rfl
theorem ap_cCmpP {g : PyData → PyData → Option Bool} {T2 : List Nat} {fa : M Rv} {f : M (Nat × List Nat)} {ρ : Rho} : cCmpP g T2 fa f ρ = (bnd fa fun x => bnd f fun r => fun ρ => match der ρ x, (treeAt ρ r).bind Tr.toD with
  | some a, some b => (match g a b with
    | some z => some (.ok z ρ)
    | none => none)
  | _, _ => none) ρ := rfl
theorem ap_nDisp (fs : M (List (Key × Tr))) {ρ : Rho} : nDisp fs ρ = (bnd fs fun kts => fun ρ => if decide (kts.length ≤ 15) && decide ((kts.map (·.1)).Nodup) then some (.ok (.dk kts) ρ) else none) ρ := rfl
theorem ap_dtCons {k : Key} {f : M Tr} (g : M (List (Key × Tr))) {ρ : Rho} : dtCons k f g ρ = (bnd f fun t => bnd g fun kts => VL.ret ((k, t) :: kts)) ρ := rfl
theorem ap_dtNil  {ρ : Rho} : dtNil  ρ = (VL.ret []) ρ := rfl
theorem ap_nDictC {f : M (Nat × List Nat)} {ρ : Rho} : nDictC f ρ = (bnd f fun r => fun ρ => match treeAt ρ r with
  | some (.dk kvs) => (match dats kvs with
    | some ds => some (.ok (.dk (toT ds)) ρ)
    | none => none)
  | _ => none) ρ := rfl
theorem ap_nDictS {f : M (Nat × List Nat)} {ρ : Rho} : nDictS f ρ = (bnd f fun r => fun ρ => match treeAt ρ r with
  | some (.sd ds) => some (.ok (.dk (toT ds)) ρ)
  | _ => none) ρ := rfl
theorem ap_nListC {f : M (Nat × List Nat)} {ρ : Rho} : nListC f ρ = (bnd f fun r => fun ρ => match treeAt ρ r with
  | some (.lst ts) => (match flat ts with
    | some ds => some (.ok (.lst (ds.map .dat)) ρ)
    | none => none)
  | _ => none) ρ := rfl
theorem ap_nCopyDs {v : Nat} {f : M (Nat × List Nat)} {ρ : Rho} : nCopyDs v f ρ = (bnd f fun r => fun ρ => match treeAt ρ r with
  | some (.lst ts) => (match copies ts with
    | some dss => if decide (v < ρ.length) && small dss.length then some (.ok (.lst (copyT dss)) ρ) else none
    | none => none)
  | _ => none) ρ := rfl
theorem ap_nCopyM {v : Nat} {f : M (Nat × List Nat)} {ρ : Rho} : nCopyM v f ρ = (bnd f fun r => fun ρ => match treeAt ρ r with
  | some (.lst ts) => (match copiesM ts with
    | some dss => if decide (v < ρ.length) && small dss.length then some (.ok (.lst (copyM dss)) ρ) else none
    | none => none)
  | _ => none) ρ := rfl
theorem ap_nCatMv {Ts T2 : List Nat} {f : M (Nat × List Nat)} {g : M Tr} {ρ : Rho} : nCatMv Ts T2 f g ρ = (bnd f fun r => bnd g fun tn => fun ρ => if !T2.contains r.1 && (Ts.contains r.1 && modeOk ρ r.1) then (match treeAt ρ r, tn with
  | some (.lst ts), .lst us => if small (ts.length + us.length) then some (.ok (.lst (ts ++ us)) (VL.putAt ρ r .hole)) else none
  | _, _ => none) else none) ρ := rfl
theorem ap_nLstT {fs : M (List Tr)} {ρ : Rho} : nLstT fs ρ = (bnd fs fun ts => fun ρ => if small ts.length then some (.ok (.lst ts) ρ) else none) ρ := rfl
theorem ap_tConsM {f : M Tr} {g : M (List Tr)} {ρ : Rho} : tConsM f g ρ = (bnd f fun x => bnd g fun xs => VL.ret (x :: xs)) ρ := rfl
theorem ap_tNilM  {ρ : Rho} : tNilM  ρ = (VL.ret []) ρ := rfl
theorem ap_nTupT {fs : M (List Tr)} {ρ : Rho} : nTupT fs ρ = (bnd fs fun ts => fun ρ => if small ts.length && ts.any isNode then some (.ok (.tup ts) ρ) else none) ρ := rfl
theorem ap_nCutMv {Ts T2 : List Nat} {f : M (Nat × List Nat)} {fl fh : M (Option Int)} {ρ : Rho} : nCutMv Ts T2 f fl fh ρ = (bnd f fun r => bnd fl fun lo => bnd fh fun hi => fun ρ => if !T2.contains r.1 && (Ts.contains r.1 && modeOk ρ r.1) then (match treeAt ρ r with
  | some (.lst ts) => some (.ok (.lst (cutL ts lo hi)) (VL.putAt ρ r .hole))
  | _ => none) else none) ρ := rfl
theorem ap_cLk {i : Nat} {f : M Rv} {ρ : Rho} : cLk i f ρ = (fun ρ => match lkS ρ i with
  | some ρ1 => (match f ρ1 with
    | some (.ok (.d d) ρ2) => (match ρ[i]? with
      | some s => some (.ok (.d d) (ρ2.set i s))
      | none => none)
    | _ => none)
  | none => none) ρ := rfl
theorem ap_nMv {i : Nat} {ρ : Rho} : nMv i ρ = (fun ρ => match ρ[i]? with
  | some (.own .free t) => some (.ok t (ρ.set i (.own .free .hole)))
  | _ => none) ρ := rfl
theorem ap_nMvP {Ts : List Nat} {f : M (Nat × List Nat)} {ρ : Rho} : nMvP Ts f ρ = (bnd f fun r => fun ρ => if Ts.contains r.1 && modeOk ρ r.1 then (match treeAt ρ r with
  | some t => some (.ok t (VL.putAt ρ r .hole))
  | none => none) else none) ρ := rfl
theorem ap_pVar {i : Nat} {ρ : Rho} : pVar i ρ = (fun ρ => match ρ[i]? with
  | some (.own _ _) => some (.ok (i, []) ρ)
  | _ => none) ρ := rfl
theorem ap_pKey {T2 : List Nat} {f : M (Nat × List Nat)} {g : M Rv} {ρ : Rho} : pKey T2 f g ρ = (bnd f fun r => bnd g fun y => fun ρ => if T2.contains r.1 then none else match treeAt ρ r, y with
  | some (.dk kvs), .d d => (match keyD d with
    | some k => (match keyIx k kvs with
      | some j => some (.ok (r.1, r.2 ++ [j]) ρ)
      | none => none)
    | none => none)
  | _, _ => none) ρ := rfl
theorem ap_pIx {T2 : List Nat} {f : M (Nat × List Nat)} {g : M Rv} {ρ : Rho} : pIx T2 f g ρ = (bnd f fun r => bnd g fun y => fun ρ => if T2.contains r.1 then none else match treeAt ρ r, y with
  | some (.lst ts), .d (.int n) => (match ixN ts.length n with
    | some j => some (.ok (r.1, r.2 ++ [j]) ρ)
    | none => none)
  | some (.tup ts), .d (.int n) => (match ixN ts.length n with
    | some j => some (.ok (r.1, r.2 ++ [j]) ρ)
    | none => none)
  | _, _ => none) ρ := rfl
theorem ap_pAl {j : Nat} {ρ : Rho} : pAl j ρ = (fun ρ => match ρ[j]? with
  | some (.al i p) => (match ρ[i]? with
    | some (.own (.bor q) _) => if q = p then some (.ok (i, p) ρ) else none
    | _ => none)
  | _ => none) ρ := rfl
theorem ap_pFld {c f : Str} {fo : M (Nat × List Nat)} {ρ : Rho} : pFld c f fo ρ = (bnd fo fun r => fun ρ => match treeAt ρ r with
  | some (.ins c' fs) => if c' = c then (match keyIx f fs with
    | some j => some (.ok (r.1, r.2 ++ [j]) ρ)
    | none => none) else none
  | _ => none) ρ := rfl
theorem ap_iSeq {f : M Rv} {ρ : Rho} : iSeq f ρ = (bnd f fun x => fun ρ => match x with
  | .d d => (match itemsOf d with
    | some xs => some (.ok xs ρ)
    | none => none)
  | .o _ => none) ρ := rfl
theorem ap_nCat {fa fb : M Rv} {ρ : Rho} : nCat fa fb ρ = (bnd fa fun x => bnd fb fun y => cat1 x y) ρ := rfl
theorem ap_sSeq {g h : MS} {ρ : Rho} : sSeq g h ρ = (fun ρ => match g ρ with
  | some (.nx ρ1) => h ρ1
  | o => o) ρ := rfl
theorem ap_sE {α : Type} {f : M α} {k : α → MS} {ρ : Rho} : sE f k ρ = (fun ρ => match f ρ with
  | some (.ok a ρ1) => k a ρ1
  | some (.ex c ρ1) => some (.ex c ρ1)
  | none => none) ρ := rfl
theorem ap_sIf {c : M Bool} {g h : MS} {ρ : Rho} : sIf c g h ρ = (sE c fun b => if b then g else h) ρ := rfl
theorem ap_sSet {i : Nat} {f : M Rv} {ρ : Rho} : sSet i f ρ = (sE f fun x => match x with
  | .d d => putD i d
  | .o _ => fun _ => none) ρ := rfl
theorem ap_sSetN {i : Nat} {f : M Tr} {ρ : Rho} : sSetN i f ρ = (sE f fun t => fun ρ => (setSl ρ i (.own .free t)).map .nx) ρ := rfl
theorem ap_putD {i : Nat} {d : PyData} {ρ : Rho} : putD i d ρ = (fun ρ => (setSl ρ i (.val d)).map .nx) ρ := rfl
theorem ap_sAsg {G : MG} {f : M Rv} {ρ : Rho} : sAsg G f ρ = (sE f fun x => fun ρ => match x with
  | .d d => (G d ρ).map .nx
  | .o _ => none) ρ := rfl
theorem ap_gT {n : Nat} {Gs : MGs} {zd : PyData} {ρ : Rho} : gT n Gs zd ρ = (fun d ρ => match d with
  | .tuple ds => if ds.length = n then Gs ds ρ else none
  | _ => none) zd ρ := rfl
theorem ap_gsC {G : MG} {Gs : MGs} {zd : List PyData} {ρ : Rho} : gsC G Gs zd ρ = (fun ds ρ => match ds with
  | d :: r => (match G d ρ with
    | some ρ1 => Gs r ρ1
    | none => none)
  | [] => none) zd ρ := rfl
theorem ap_gsN  {zd : List PyData} {ρ : Rho} : gsN  zd ρ = (fun ds ρ => match ds with
  | [] => some ρ
  | _ => none) zd ρ := rfl
theorem ap_gN {i : Nat} {zd : PyData} {ρ : Rho} : gN i zd ρ = (fun d ρ => setSl ρ i (.val d)) zd ρ := rfl
theorem ap_sDrop {f : M Rv} {ρ : Rho} : sDrop f ρ = (sE f fun _ => sNil) ρ := rfl
theorem ap_sNil  {ρ : Rho} : sNil  ρ = (fun ρ => some (.nx ρ)) ρ := rfl
theorem ap_sRet {f : M Tr} {ρ : Rho} : sRet f ρ = (sE f fun t => fun ρ => some (.rt t ρ)) ρ := rfl
theorem ap_sRetN  {ρ : Rho} : sRetN  ρ = (fun ρ => some (.rt (.dat .none) ρ)) ρ := rfl
theorem ap_sRetV {i : Nat} {ρ : Rho} : sRetV i ρ = (fun ρ => match ρ[i]? with
  | some (.val d) => some (.rt (.dat d) ρ)
  | some (.own .free t) => some (.rt t (ρ.set i .no))
  | _ => none) ρ := rfl
theorem ap_sRaise {c : Str} {ρ : Rho} : sRaise c ρ = (fun ρ => some (.ex c ρ)) ρ := rfl
theorem ap_sAl {j : Nat} {f : M (Nat × List Nat)} {ρ : Rho} : sAl j f ρ = (sE f fun r => fun ρ => (mkAl j r ρ).map .nx) ρ := rfl
theorem ap_sEd {i : Nat} {g : MS} {ρ : Rho} : sEd i g ρ = (fun ρ => g (unbor ρ i)) ρ := rfl
theorem ap_sKeyT {T2 : List Nat} {g : M Tr} {f : M (Nat × List Nat)} {fk : M Rv} {ρ : Rho} : sKeyT T2 g f fk ρ = (sE g fun tn => sE f fun r => sE fk (keyT1 T2 tn r)) ρ := rfl
theorem ap_keyT1 {T2 : List Nat} {tn : Tr} {r : Nat × List Nat} {y : Rv} {ρ : Rho} : keyT1 T2 tn r y ρ = (fun ρ => if T2.contains r.1 || !modeA ρ r then none else match y, treeAt ρ r with
  | .d kd, some (.dk kts) => (match keyD kd with
    | some k => if small (kts.length + 1) && decide ((kts.map (·.1)).Nodup) then some (.nx (VL.putAt ρ r (.dk (putR k tn kts)))) else none
    | none => none)
  | _, _ => none) ρ := rfl
theorem ap_sDPut {T2 : List Nat} {fe : M Rv} {f : M (Nat × List Nat)} {fk : M Rv} {ρ : Rho} : VL.sDPut T2 fe f fk ρ = (sE fe fun x => match x with
  | .d d => sE f fun r => sE fk (dPut1 T2 d r)
  | .o _ => fun _ => none) ρ := rfl
theorem ap_dPut1 {T2 : List Nat} {d : PyData} {r : Nat × List Nat} {y : Rv} {ρ : Rho} : dPut1 T2 d r y ρ = (fun ρ => if T2.contains r.1 || !modeOk ρ r.1 then none else match y, treeAt ρ r with
  | .d kd, some (.dk kvs) => (match keyD kd, dats kvs with
    | some k, some ds => if small (ds.length + 1) then some (.nx (VL.putAt ρ r (.dk (toT (putP ds k d))))) else none
    | _, _ => none)
  | .d kd, some (.dt kvs) => (match keyT kd, dats kvs with
    | some k, some ds => if small (ds.length + 1) then some (.nx (VL.putAt ρ r (.dt (toT (putP ds k d))))) else none
    | _, _ => none)
  | _, _ => none) ρ := rfl
theorem ap_sDPutA {T2 : List Nat} {fe : M Rv} {f : M (Nat × List Nat)} {fk : M Rv} {ρ : Rho} : sDPutA T2 fe f fk ρ = (sE fe fun x => match x with
  | .d d => sE f fun r => sE fk (dPutA1 T2 d r)
  | .o _ => fun _ => none) ρ := rfl
theorem ap_dPutA1 {T2 : List Nat} {d : PyData} {r : Nat × List Nat} {y : Rv} {ρ : Rho} : dPutA1 T2 d r y ρ = (fun ρ => if T2.contains r.1 || !modeA ρ r then none else match y, treeAt ρ r with
  | .d kd, some (.dk kvs) => (match keyD kd, dats kvs with
    | some k, some ds => if small (ds.length + 1) then some (.nx (VL.putAt ρ r (.dk (toT (putP ds k d))))) else none
    | _, _ => none)
  | _, _ => none) ρ := rfl
theorem ap_sApp {T2 : List Nat} {f : M (Nat × List Nat)} {g : M Tr} {ρ : Rho} : sApp T2 f g ρ = (sE f fun r => fun ρ => if isLst (treeAt ρ r) then sE g (app1 T2 r) ρ else none) ρ := rfl
theorem ap_app1 {T2 : List Nat} {r : Nat × List Nat} {tn : Tr} {ρ : Rho} : app1 T2 r tn ρ = (fun ρ => if T2.contains r.1 || !modeOk ρ r.1 then none else match treeAt ρ r with
  | some (.lst ts) => if small (ts.length + 1) then some (.nx (VL.putAt ρ r (.lst (ts ++ [tn])))) else none
  | _ => none) ρ := rfl
theorem ap_sFldT {c f : Str} {g : M Tr} {fo : M (Nat × List Nat)} {ρ : Rho} : sFldT c f g fo ρ = (sE g fun t => sE fo (fld1 c f [] t)) ρ := rfl
theorem ap_fld1 {c f : Str} {T2 : List Nat} {tn : Tr} {r : Nat × List Nat} {ρ : Rho} : fld1 c f T2 tn r ρ = (fun ρ => if !modeOk ρ r.1 then none else match treeAt ρ r with
  | some (.ins c' fs) => if c' = c ∧ fs.length < 1000 then some (.nx (VL.putAt ρ r (.ins c (putFT f tn fs)))) else none
  | _ => none) ρ := rfl
theorem ap_sPar {i j : Nat} {fs : M (List Rv)} {ρ : Rho} : sPar i j fs ρ = (sE fs fun rs => fun ρ => match rs with
  | [.d a, .d b] => (match setSl ρ i (.val a) with
    | some ρ1 => (setSl ρ1 j (.val b)).map .nx
    | none => none)
  | _ => none) ρ := rfl
theorem ap_sTryK {cs : List Str} {j k : Nat} {g : MS} {ρ : Rho} : sTryK cs j k g ρ = (fun ρ => match g ρ with
  | some (.ex c ρ1) => if c ∈ cs ∧ isNo ρ1[j]? = true then (match setSl ρ1 k (.val (.str (c ++ plusS))) with
    | some ρ2 => if isNo ρ2[j]? then some (.nx ρ2) else none
    | none => none) else none
  | o => o) ρ := rfl
theorem ap_sUpd {T2 : List Nat} {f : M (Nat × List Nat)} {g : M Tr} {ρ : Rho} : sUpd T2 f g ρ = (sE f fun r => fun ρ => if isDkk (treeAt ρ r) then sE g (upd1 T2 r) ρ else none) ρ := rfl
theorem ap_upd1 {T2 : List Nat} {r : Nat × List Nat} {tn : Tr} {ρ : Rho} : upd1 T2 r tn ρ = (fun ρ => if T2.contains r.1 || !modeOk ρ r.1 then none else match treeAt ρ r, tn with
  | some (.dk kts), .dk us => if small (kts.length + us.length) && decide ((kts.map (·.1)).Nodup) then some (.nx (VL.putAt ρ r (.dk (mergeR kts us)))) else none
  | _, _ => none) ρ := rfl
theorem ap_sPopK {T2 : List Nat} {f : M (Nat × List Nat)} {fk : M Rv} {ρ : Rho} : sPopK T2 f fk ρ = (sE f fun r => fun ρ => if isDk (treeAt ρ r) then sE fk (popK1 T2 r) ρ else none) ρ := rfl
theorem ap_popK1 {T2 : List Nat} {r : Nat × List Nat} {y : Rv} {ρ : Rho} : popK1 T2 r y ρ = (fun ρ => if T2.contains r.1 || !modeOk ρ r.1 then none else match y, treeAt ρ r with
  | .d kd, some (.dk kvs) => (match keyD kd, dats kvs with
    | some k, some ds => if (ds.any fun kv => decide (kv.1 = k)) then some (.nx (VL.putAt ρ r (.dk (toT (ds.filter fun kv => decide (kv.1 ≠ k)))))) else none
    | _, _ => none)
  | _, _ => none) ρ := rfl
theorem ap_sFzP {f : M (Nat × List Nat)} {g : MS} {ρ : Rho} : sFzP f g ρ = (fun ρ => match f ρ with
  | some (.ok r _) => (match fzP ρ r with
    | some ρ1 => g ρ1
    | none => none)
  | _ => none) ρ := rfl
theorem ap_sUnp {i j : Nat} {f : M Tr} {ρ : Rho} : sUnp i j f ρ = (sE f fun t => fun ρ => match t with
  | .tup [t1, t2] => (match setSl ρ i (asSl t1) with
    | some ρ1 => (setSl ρ1 j (asSl t2)).map .nx
    | none => none)
  | _ => none) ρ := rfl
theorem ap_sFor {fi : M (List PyData)} {G : MG} {body : MS} {ρ : Rho} : sFor fi G body ρ = (sE fi fun xs => loopF G body xs) ρ := rfl
theorem ap_sSetIx {T2 : List Nat} {fe : M Rv} {f : M (Nat × List Nat)} {fi : M Rv} {ρ : Rho} : sSetIx T2 fe f fi ρ = (sE fe fun x => match x with
  | .d d => sE f fun r => sE fi (setIx1 T2 d r)
  | .o _ => fun _ => none) ρ := rfl
end VR

end

section
set_option Elab.async false
set_option linter.all false
set_option maxRecDepth 100000
namespace SP
open PySem PySem.Spec PyProof.Rows L2 VL SM
structure St where
  mo : Int
  op : Bool
  off : Int
  held : List (Key × PyData)
  made : List (List (Key × PyData))
  up : List PyData
  dealt : List PyData
noncomputable def numD (x : St) : PyData := .tuple [.int x.mo, .bool x.op, .int x.off]
noncomputable def stT (x : St) : Tr := .tup [.dat (numD x), .dk (toT x.held), .lst (copyT x.made), .lst (x.up.map .dat), .lst (x.dealt.map .dat)]
noncomputable def pastT (p : List (St × PyData)) : List Tr := p.map fun q => .tup [stT q.1, .dat q.2]
noncomputable def hFs (z s : Tr) (mo op off held made up dealt past : Tr) : List (Str × Tr) := [(s_size, z), (s_start, s), (s_moment, mo), (s_opened, op), (s_offered, off), (s_held, held), (s_made, made), (s_put_up, up), (s_dealt, dealt), (s_past, past)]
noncomputable def hT (z s mo op off held made up dealt past : Tr) : Tr := .ins s_Hall (hFs z s mo op off held made up dealt past)
noncomputable def hallT (z s : Int) (x : St) (p : List (St × PyData)) : Tr := hT (.dat (.int z)) (.dat (.int s)) (.dat (.int x.mo)) (.dat (.bool x.op)) (.dat (.int x.off)) (.dk (toT x.held)) (.lst (copyT x.made)) (.lst (x.up.map .dat)) (.lst (x.dealt.map .dat)) (.lst (pastT p))
section
variable {z s : Int} {x : St} {p : List (St × PyData)}
@[simp] theorem kids_hallT : kids (hallT z s x p) = [.dat (.int z), .dat (.int s), .dat (.int x.mo), .dat (.bool x.op), .dat (.int x.off), .dk (toT x.held), .lst (copyT x.made), .lst (x.up.map .dat), .lst (x.dealt.map .dat), .lst (pastT p)] := rfl
@[simp] theorem put_held {y : List (Key × PyData)} : (hallT z s x p).put [5] (.dk (toT y)) = hallT z s { x with held := y } p := rfl
@[simp] theorem put_made {y : List (List (Key × PyData))} : (hallT z s x p).put [6] (.lst (copyT y)) = hallT z s { x with made := y } p := rfl
@[simp] theorem put_past {q : List (St × PyData)} : (hallT z s x p).put [9] (.lst (pastT q)) = hallT z s x q := rfl
end
section
variable {z s mo op off held made up dealt past t : Tr}
theorem ix_size : fldIx s_Hall s_size (some (hT z s mo op off held made up dealt past)) = some 0 := by kernel_rfl
theorem ix_start : fldIx s_Hall s_start (some (hT z s mo op off held made up dealt past)) = some 1 := by kernel_rfl
theorem ix_moment : fldIx s_Hall s_moment (some (hT z s mo op off held made up dealt past)) = some 2 := by kernel_rfl
theorem ix_opened : fldIx s_Hall s_opened (some (hT z s mo op off held made up dealt past)) = some 3 := by kernel_rfl
theorem ix_offered : fldIx s_Hall s_offered (some (hT z s mo op off held made up dealt past)) = some 4 := by kernel_rfl
theorem ix_held : fldIx s_Hall s_held (some (hT z s mo op off held made up dealt past)) = some 5 := by kernel_rfl
theorem ix_made : fldIx s_Hall s_made (some (hT z s mo op off held made up dealt past)) = some 6 := by kernel_rfl
theorem ix_put_up : fldIx s_Hall s_put_up (some (hT z s mo op off held made up dealt past)) = some 7 := by kernel_rfl
theorem ix_dealt : fldIx s_Hall s_dealt (some (hT z s mo op off held made up dealt past)) = some 8 := by kernel_rfl
theorem ix_past : fldIx s_Hall s_past (some (hT z s mo op off held made up dealt past)) = some 9 := by kernel_rfl
end
@[simp] theorem jx_size {z s : Int} {x : St} {p : List (St × PyData)} : fldIx s_Hall s_size (some (hallT z s x p)) = some 0 := ix_size
@[simp] theorem jx_start {z s : Int} {x : St} {p : List (St × PyData)} : fldIx s_Hall s_start (some (hallT z s x p)) = some 1 := ix_start
@[simp] theorem jx_moment {z s : Int} {x : St} {p : List (St × PyData)} : fldIx s_Hall s_moment (some (hallT z s x p)) = some 2 := ix_moment
@[simp] theorem jx_opened {z s : Int} {x : St} {p : List (St × PyData)} : fldIx s_Hall s_opened (some (hallT z s x p)) = some 3 := ix_opened
@[simp] theorem jx_offered {z s : Int} {x : St} {p : List (St × PyData)} : fldIx s_Hall s_offered (some (hallT z s x p)) = some 4 := ix_offered
@[simp] theorem jx_held {z s : Int} {x : St} {p : List (St × PyData)} : fldIx s_Hall s_held (some (hallT z s x p)) = some 5 := ix_held
@[simp] theorem jx_made {z s : Int} {x : St} {p : List (St × PyData)} : fldIx s_Hall s_made (some (hallT z s x p)) = some 6 := ix_made
@[simp] theorem jx_put_up {z s : Int} {x : St} {p : List (St × PyData)} : fldIx s_Hall s_put_up (some (hallT z s x p)) = some 7 := ix_put_up
@[simp] theorem jx_dealt {z s : Int} {x : St} {p : List (St × PyData)} : fldIx s_Hall s_dealt (some (hallT z s x p)) = some 8 := ix_dealt
@[simp] theorem jx_past {z s : Int} {x : St} {p : List (St × PyData)} : fldIx s_Hall s_past (some (hallT z s x p)) = some 9 := ix_past
section
variable {z s mo op off held made up dealt past t : Tr}
end
end SP

end

section
set_option Elab.async false
set_option linter.all false
set_option maxRecDepth 100000
namespace SP
open PySem PySem.Spec PyProof.Rows L2 VL SM
section
variable {z s : Int} {x : St} {p : List (St × PyData)} {m : Md}
end
end SP

end

section
set_option Elab.async false
set_option linter.all false
set_option maxRecDepth 100000
namespace SP
open PySem PySem.Spec PyProof.Rows L2 VL SM
section
variable {z s : Int} {x y : St} {p q : List (St × PyData)} {m m2 : Md}
structure Of where
  n : Int
  mem : Int
  a : Str
  b : Int
  c : Int
  d : Str
  pr : Int
  lf : Int
noncomputable def Of.sg (o : Of) : PyData := .tuple [.str o.a, .int o.b, .int o.c, .str o.d]
noncomputable def Of.v (o : Of) : PyData := .tuple [.int o.mem, o.sg, .int o.pr, .int o.lf]
noncomputable def Of.kv (o : Of) : Key × PyData := (.inl o.n, o.v)
end
end SP

end

section
set_option Elab.async false
set_option linter.all false
set_option maxRecDepth 100000
namespace SP
open PySem PySem.Spec PyProof.Rows L2 VL SM
section
variable {z s : Int} {x y : St} {p q : List (St × PyData)} {m m2 : Md} {os : List Of}
@[simp] theorem lk_ix {t : Tr} : fldIx s_Hall s_held (some (setKid (hallT z s x p) 5 t)) = some 5 := by kernel_rfl
@[simp] theorem lk_kids {t : Tr} : kids (setKid (hallT z s x p) 5 t) = [.dat (.int z), .dat (.int s), .dat (.int x.mo), .dat (.bool x.op), .dat (.int x.off), t, .lst (copyT x.made), .lst (x.up.map .dat), .lst (x.dealt.map .dat), .lst (pastT p)] := rfl
noncomputable def PalmS (a : Str) : Prop := a = sIn ∨ a = sOut
noncomputable def mine (i : Int) (a : Str) (o : Of) : Bool := decide (o.mem = i) && decide (o.a = a)
end
end SP

end

section
set_option Elab.async false
set_option linter.all false
set_option maxRecDepth 100000
namespace SH
open PySem PySem.Spec PyProof.Rows L2 VL SM SP
structure Bg where
  a : Int
  b : Int
  sg : PyData
  lk : PyData
  sw : PyData
  se : PyData
  u1 : Bool
  u2 : Bool
  p1 : Int
  c1 : Int
  p2 : Int
  c2 : Int
  mo : Int
  inn : List Int
  wd : Str
  cl : Int
  ch : List (Int × Int × Int)
  co : List (Int × Int × Int)
noncomputable def sdS (u : Bool) : Str := if u then sBought else sSold
noncomputable def Bg.mine (g : Bg) : PyData := .tuple [.int g.a, .int g.b, .str (sdS g.u1), .int g.p1, .int g.c1, .int g.mo]
noncomputable def Bg.their (g : Bg) : PyData := .tuple [.int g.b, .int g.a, .str (sdS g.u2), .int g.p2, .int g.c2, .int g.mo]
noncomputable def csD (r : Int × Int × Int) : PyData := .tuple [.int r.1, .int r.2.1, .int r.2.2]
noncomputable def Bg.hd (g : Bg) : List (Key × PyData) := [(.inr s_two, .tuple [.int g.a, .int g.b]), (.inr s_signs, .tuple [g.sg, g.lk, g.sw, g.se]), (.inr s_cards, .tuple [g.mine, g.their]), (.inr sIn, .tuple (g.inn.map .int)), (.inr s_word, .str g.wd), (.inr s_called, .int g.cl), (.inr s_consents, .tuple (g.ch.map csD))]
structure S where
  mo : Int
  op : Bool
  off : Int
  held : List Of
  made : List Bg
  up : List PyData
  dl : List PyData
noncomputable def S.st (x : S) : SP.St := ⟨x.mo, x.op, x.off, x.held.map Of.kv, x.made.map Bg.hd, x.up, x.dl⟩
noncomputable abbrev Past := List (S × PyData)
noncomputable def HT (z s : Int) (x : S) (p : Past) : Tr := hallT z s x.st (p.map fun q => (q.1.st, q.2))
section
variable {z s : Int} {x : S} {p : Past} {rest : Rho} {md : Md} {n : Nat} {g : Bg}
end
end SH

end

section
set_option Elab.async false
set_option linter.all false
set_option maxRecDepth 100000
open PySem PySem.Spec PyProof.Rows L2 VL
theorem VR.c_List_map_cons : type_of% @List.map_cons.{0, 0} := by intros; rfl
theorem VR.c_List_map_nil : type_of% @List.map_nil.{0, 0} := by intros; rfl
theorem VR.c_List_length_cons : type_of% @List.length_cons.{0} := by intros; rfl
theorem VR.c_List_length_nil : type_of% @List.length_nil.{0} := by intros; rfl
theorem VR.c_List_cons_append : type_of% @List.cons_append.{0} := by intros; rfl
theorem VR.c_List_nil_append : type_of% @List.nil_append.{0} := by intros; rfl
theorem VR.c_List_getElem_cons_zero : type_of% @List.getElem?_cons_zero.{0} := by intros; rfl
theorem VR.c_List_getElem_cons_succ : type_of% @List.getElem?_cons_succ.{0} := by intros; rfl
theorem VR.c_List_set_cons_zero : type_of% @List.set_cons_zero.{0} := by intros; rfl
theorem VR.c_List_set_cons_succ : type_of% @List.set_cons_succ.{0} := by intros; rfl
theorem VR.c_List_take_succ_cons : type_of% @List.take_succ_cons.{0} := by intros; rfl
theorem VR.c_List_take_zero : type_of% @List.take_zero.{0} := by intros; rfl
theorem VR.c_List_contains_nil : type_of% @List.contains_nil.{0} := @List.contains_nil.{0}
theorem VR.c_Bool_false_or : type_of% @Bool.false_or := by intros; rfl
theorem VR.c_Bool_or_false : type_of% @Bool.or_false := @Bool.or_false
theorem VR.c_Bool_not_true : type_of% @Bool.not_true := by intros; rfl
theorem VR.c_Bool_not_false : type_of% @Bool.not_false := by intros; rfl
theorem VR.c_Bool_false_eq_true : type_of% @Bool.false_eq_true := @Bool.false_eq_true
theorem VR.c_Bool_and_self : type_of% @Bool.and_self := @Bool.and_self
theorem VR.c_Bool_and_true : type_of% @Bool.and_true := @Bool.and_true
theorem VR.c_Bool_true_and : type_of% @Bool.true_and := by intros; rfl
theorem VR.c_Bool_or_self : type_of% @Bool.or_self := @Bool.or_self
theorem VR.c_Bool_and_false : type_of% @Bool.and_false := @Bool.and_false
theorem VR.c_Bool_false_and : type_of% @Bool.false_and := by intros; rfl
theorem VR.c_Bool_or_true : type_of% @Bool.or_true := @Bool.or_true
theorem VR.c_Bool_true_or : type_of% @Bool.true_or := by intros; rfl
theorem VR.c_if_true : type_of% @if_true.{1} := @if_true.{1}
theorem VR.c_if_false : type_of% @if_false.{1} := @if_false.{1}
theorem VR.c_ne_eq : type_of% @ne_eq.{1} := @ne_eq.{1}
theorem VR.c_not_false_eq_true : type_of% @not_false_eq_true := @not_false_eq_true
theorem VR.c_not_true_eq_false : type_of% @not_true_eq_false := @not_true_eq_false
theorem VR.c_decide_true : type_of% @decide_true := @decide_true
theorem VR.c_decide_false : type_of% @decide_false := @decide_false
theorem VR.c_Option_map_some : type_of% @Option.map_some.{0, 0} := by intros; rfl
theorem VR.c_Option_map_none : type_of% @Option.map_none.{0, 0} := by intros; rfl
theorem VR.c_List_head_cons : type_of% @List.head?_cons.{0} := by intros; rfl
theorem VR.c_List_tail_cons : type_of% @List.tail_cons.{0} := by intros; rfl
theorem VR.c_List_all_cons : type_of% @List.all_cons.{0} := @List.all_cons.{0}
theorem VR.c_List_all_nil : type_of% @List.all_nil.{0} := by intros; rfl
theorem VR.c_Option_isNone_none : type_of% @Option.isNone_none.{0} := by intros; rfl
theorem VR.c_Option_isSome_none : type_of% @Option.isSome_none.{0} := by intros; rfl
theorem VR.c_Option_isSome_some : type_of% @Option.isSome_some.{0} := by intros; rfl
theorem VR.c_Option_isNone_some : type_of% @Option.isNone_some.{0} := by intros; rfl
theorem VR.c_List_contains_cons : type_of% @List.contains_cons.{0} := @List.contains_cons.{0}
theorem VR.c_beq_self_eq_true : type_of% @beq_self_eq_true.{0} := @beq_self_eq_true.{0}
theorem VR.c_eq_self : type_of% @eq_self.{1} := @eq_self.{1}
theorem VR.c_and_self : type_of% @and_self := @and_self
theorem VR.c_and_true : type_of% @and_true := @and_true
theorem VR.c_true_and : type_of% @true_and := @true_and
theorem VR.c_and_false : type_of% @and_false := @and_false
theorem VR.c_false_and : type_of% @false_and := @false_and
theorem VR.c_or_self : type_of% @or_self := @or_self
theorem VR.c_or_true : type_of% @or_true := @or_true
theorem VR.c_true_or : type_of% @true_or := @true_or
theorem VR.c_or_false : type_of% @or_false := @or_false
theorem VR.c_false_or : type_of% @false_or := @false_or
theorem VR.c_at_nil : type_of% @at_nil := @at_nil

end

set_option maxRecDepth 1000000
local macro_rules | `(tactic| simp! only [$xs,*]) => `(tactic| simp only [Nat.reduceSub, Nat.reduceAdd, Nat.reduceBEq, Nat.reduceEqDiff, Nat.reduceLT, reduceCtorEq, VL.runF, VL.entry, VL.noAl, VL.isAlOf, VL.treeAt, VL.putAt, VL.modeOk, VL.modeA, VL.mkAl, VL.unbor, VL.isLst, VL.asB, VL.datas, VL.derSs, VL.isAl, VL.killA, VL.backA, VL.argSls, VL.argSl, VL.Md.arg, VL.allIn, VL.oneEach, VL.posOf, VL.wb, VL.wbGo, VL.wb1, VR.c_List_map_cons, VR.c_List_map_nil, VR.c_List_length_cons, VR.c_List_length_nil, VR.c_List_cons_append, VR.c_List_nil_append, VR.c_List_getElem_cons_zero, VR.c_List_getElem_cons_succ, VR.c_List_set_cons_zero, VR.c_List_set_cons_succ, VR.c_List_take_succ_cons, VR.c_List_take_zero, VR.c_List_contains_nil, VR.c_Bool_false_or, VR.c_Bool_or_false, VR.c_Bool_not_true, VR.c_Bool_not_false, VR.c_Bool_false_eq_true, VR.c_Bool_and_self, VR.c_Bool_and_true, VR.c_Bool_true_and, VR.c_Bool_or_self, VR.c_Bool_and_false, VR.c_Bool_false_and, VR.c_Bool_or_true, VR.c_Bool_true_or, VR.c_if_true, VR.c_if_false, VR.c_ne_eq, VR.c_not_false_eq_true, VR.c_not_true_eq_false, VR.c_decide_true, VR.c_decide_false, VR.c_Option_map_some, VR.c_Option_map_none, VR.c_List_head_cons, VR.c_List_tail_cons, VR.c_List_all_cons, VR.c_List_all_nil, VR.c_Option_isNone_none, VR.c_Option_isSome_none, VR.c_Option_isSome_some, VR.c_Option_isNone_some, VR.c_List_contains_cons, VR.c_beq_self_eq_true, VR.c_eq_self, VR.c_and_self, VR.c_and_true, VR.c_true_and, VR.c_and_false, VR.c_false_and, VR.c_or_self, VR.c_or_true, VR.c_true_or, VR.c_or_false, VR.c_false_or, VR.ap_cVar, VR.cv_val, VR.cv_dat, VR.cv_tup, VR.cv_lst, VR.cv_dk, VR.pref, VR.pref0, VR.mrg1_val, VR.mrg1_own, VR.mrg_nil, VR.mrg_cons, VR.wb_d0, VR.wb_d1, VR.wb_d2, VR.wb_d3, VR.wb_d4, VR.wb_d5, VR.backOk_nil, VR.backOk_val, VR.backOk_own, VR.der_d, VR.derS_d, VR.argSl_d, VR.kd_str, VR.kd_int, VR.eqI, VR.neI, VR.ltI, VR.leI, VR.gtI, VR.geI, VR.addI, VR.subtI, VR.sub0, VR.sub1, VR.sub2, VR.sub3, VR.sub4, VR.sub5, VR.sm0, VR.sm1, VR.sm2, VR.sm3, VR.sm4, VR.sm5, VR.sm6, VR.sm7, VR.sm8, VR.sm9, VR.toD_d, VR.c_at_nil, VR.ap_bnd, VR.ap_ret, VR.ap_cD, VR.ap_cDGet, VR.ap_dGet1, VR.ap_cBin, VR.ap_bin1, VR.ap_cCmp, VR.ap_binD, VR.ap_cOf, VR.ap_cChain, VR.ap_cTest, VR.ap_cNot, VR.ap_cAnd, VR.ap_cOr, VR.ap_cAndV, VR.ap_cOrV, VR.ap_cNotV, VR.ap_cIf, VR.ap_cTup, VR.ap_mkTup, VR.ap_aNil, VR.ap_aCons, VR.ap_nDat, VR.ap_nLst, VR.ap_mkLst, VR.ap_cFrz, VR.ap_cLeaf, VR.ap_cLenP, VR.ap_cCall, VR.ap_call1, VR.ap_cNeg, VR.ap_nNew, VR.ap_nMeth, VR.ap_nMethK, VR.ap_callK, VR.ap_nCall, VR.ap_callN, VR.ap_nCallR, VR.ap_callR, VR.ap_cCut, VR.ap_cut1, VR.ap_oNone, VR.ap_oSome, VR.ap_cTab, VR.ap_tabD, VR.ap_cIsi, VR.ap_nCallP, VR.ap_nLend, VR.ap_callL, VR.ap_lP, VR.ap_lD, VR.ap_lNil, VR.ap_cDIn, VR.ap_dIn1, VR.ap_cEmp, VR.ap_cCmpP, VR.ap_nDisp, VR.ap_dtCons, VR.ap_dtNil, VR.ap_nDictC, VR.ap_nDictS, VR.ap_nListC, VR.ap_nCopyDs, VR.ap_nCopyM, VR.ap_nCatMv, VR.ap_nLstT, VR.ap_tConsM, VR.ap_tNilM, VR.ap_nTupT, VR.ap_nCutMv, VR.ap_cLk, VR.ap_nMv, VR.ap_nMvP, VR.ap_pVar, VR.ap_pIx, VR.ap_pAl, VR.ap_iSeq, VR.ap_nCat, VR.ap_sSeq, VR.ap_sE, VR.ap_sIf, VR.ap_sSet, VR.ap_sSetN, VR.ap_putD, VR.ap_sAsg, VR.ap_gT, VR.ap_gsC, VR.ap_gsN, VR.ap_gN, VR.ap_sDrop, VR.ap_sNil, VR.ap_sRet, VR.ap_sRetN, VR.ap_sRetV, VR.ap_sRaise, VR.ap_sAl, VR.ap_sEd, VR.ap_sKeyT, VR.ap_sDPut, VR.ap_dPut1, VR.ap_sDPutA, VR.ap_dPutA1, VR.ap_sApp, VR.ap_app1, VR.ap_sFldT, VR.ap_sPar, VR.ap_sTryK, VR.ap_sUpd, VR.ap_upd1, VR.ap_sPopK, VR.ap_popK1, VR.ap_sFzP, VR.ap_sUnp, VR.ap_sFor, VR.ap_sSetIx, $xs,*])

section

end



section
set_option Elab.async false
set_option linter.all false
set_option maxRecDepth 100000
namespace SP
open PySem PySem.Spec PyProof.Rows L2 VL SM
structure Crd where
  w : Int
  o : Int
  s : Str
  p : Int
  c : Int
  m : Int
deriving DecidableEq
noncomputable def Crd.D (x : Crd) : PyData := .tuple [.int x.w, .int x.o, .str x.s, .int x.p, .int x.c, .int x.m]
noncomputable def SideOk (s : Str) : Prop := s = sBought ∨ s = sSold
structure CrdOk (n : Int) (x : Crd) : Prop where
  w0 : 0 ≤ x.w
  w1 : x.w < n
  o0 : 0 ≤ x.o
  o1 : x.o < n
  wo : x.w ≠ x.o
  hd : SideOk x.s
  p0 : 0 ≤ x.p
  p1 : x.p ≤ 1000000000
  c0 : 1 ≤ x.c
  c1 : x.c ≤ 1000000
  m0 : 0 ≤ x.m
  m1 : x.m ≤ 1000000000
theorem card_inv {n : Int} {d : PyData} (h : IsCard n d) : ∃ x : Crd, d = x.D ∧ CrdOk n x := by
  obtain ⟨w0, w1, o0, o1, wo, hd, p0, p1, c0, c1, m0, m1⟩ := h
  exact ⟨⟨_, _, _, _, _, _⟩, rfl, w0, w1, o0, o1, wo, hd, p0, p1, c0, c1, m0, m1⟩
noncomputable def Bel (x y : Crd) : Prop := x.w = y.o ∧ x.o = y.w ∧ x.m = y.m
instance {x y : Crd} : Decidable (Bel x y) := by unfold Bel; infer_instance
theorem Bel.symm {x y : Crd} (h : Bel x y) : Bel y x := ⟨h.2.1.symm, h.1.symm, h.2.2.symm⟩
end SP

end

section
set_option Elab.async false
set_option linter.all false
set_option maxRecDepth 100000
namespace SP
open PySem PySem.Spec PyProof.Rows L2 VL SM
end SP

end

section
set_option Elab.async false
set_option linter.all false
set_option maxRecDepth 100000
set_option maxHeartbeats 1000000
namespace SH
open PySem PySem.Spec PyProof.Rows L2 VL SM SP
section
variable {z s : Int} {x y : S} {p : Past} {md : Md} {n : Nat} {g : Bg}
structure WdOk (g : Bg) : Prop where
  w : g.wd = s_x ∨ g.wd = s_done ∨ g.wd = s_void
  l : g.inn.length ≤ 2
end
end SH

end

section
set_option Elab.async false
set_option linter.all false
set_option maxRecDepth 100000
set_option maxHeartbeats 1000000
namespace SH
open PySem PySem.Spec PyProof.Rows L2 VL SM SP
section
variable {x0 x1 x2 : PyData} {xs : List PyData}
end
section
variable {z s : Int} {x y : S} {p : Past} {md : Md} {n : Nat} {g : Bg}
noncomputable def done1 (x : S) (n : Nat) (g : Bg) (pr ct : Int) : S := { x with made := x.made.set n { g with wd := s_done }, dl := x.dl ++ [.tuple [.int (if g.u1 = true then g.b else g.a), .int (if g.u1 = true then g.a else g.b), .int pr, .int ct, .int g.mo]], up := x.up ++ [.tuple [.int g.mo, .int pr, .int ct]] }
end
end SH

end

section
set_option Elab.async false
set_option linter.all false
set_option maxRecDepth 100000
set_option maxHeartbeats 1000000
namespace SH
open PySem PySem.Spec PyProof.Rows L2 VL SM SP
noncomputable def qq (b1 b2 b3 : Bool) : List PyData := (if b1 = true then [.str s_side] else []) ++ ((if b2 = true then [.str s_price] else []) ++ (if b3 = true then [.str s_count] else []))
noncomputable def Bg.q1 (g : Bg) : Bool := decide (g.u1 = g.u2)
noncomputable def Bg.q2 (g : Bg) : Bool := !decide (g.p1 = g.p2)
noncomputable def Bg.q3 (g : Bg) : Bool := !decide (g.c1 = g.c2)
noncomputable def Bg.cm (g : Bg) : Crd := ⟨g.a, g.b, sdS g.u1, g.p1, g.c1, g.mo⟩
noncomputable def Bg.ct (g : Bg) : Crd := ⟨g.b, g.a, sdS g.u2, g.p2, g.c2, g.mo⟩
section
variable {z s : Int} {x y : S} {p : Past} {md : Md} {n : Nat} {g : Bg}
end
end SH

end

section
set_option Elab.async false
set_option linter.all false
set_option maxRecDepth 100000
set_option maxHeartbeats 1000000
namespace SH
open PySem PySem.Spec PyProof.Rows L2 VL SM SP
inductive Way where
  | void
  | done (p c : Int)
  | left
noncomputable def Way.d : Way → PyData
  | .void => .tuple [.str s_void]
  | .done p c => .tuple [.str s_done, .int p, .int c]
  | .left => .tuple [.str s_left]
section
variable {z s : Int} {x y : S} {p : Past} {md : Md} {n : Nat} {g : Bg}
end
end SH

end

section
set_option Elab.async false
set_option linter.all false
set_option maxRecDepth 100000
set_option maxHeartbeats 1000000
namespace SH
open PySem PySem.Spec PyProof.Rows L2 VL SM SP
theorem of_okM {α : Type} {o : Option (Er α)} {a : α} {ρ : Rho} (h : okM o fun b r => b = a ∧ r = ρ) : o = some (.ok a ρ) := by
  obtain ⟨b, r, e, rfl, rfl⟩ := h
  exact e
theorem comp_eq {α : Type} {D : α → PyData} {ds : List α} {fi : M (List PyData)} {v : Nat} {tt : M Bool} {te : M Rv} {ρ : Rho} {s : Sl} (p : α → Bool) (f : α → PyData) (hi : fi ρ = some (.ok (ds.map D) ρ)) (hl : ds.length ≤ 16777216) (hv : ρ[v]? = some s) (hs : unown s = true)
    (ht : ∀ d ∈ ds, tt (ρ.set v (.val (D d))) = some (.ok (p d) (ρ.set v (.val (D d))))) (he : ∀ d ∈ ds, p d = true → te (ρ.set v (.val (D d))) = some (.ok (.d (f d)) (ρ.set v (.val (D d))))) : nComp fi [v] (gN v) tt te ρ = some (.ok (.lst (((ds.filter p).map f).map .dat)) ρ) :=
  of_okM (okM_compM p f hi hl hv hs ht he ⟨rfl, rfl⟩)
theorem toD_ds {ds : List PyData} : Tr.toD (.lst (ds.map .dat)) = some (.list ds) := by
  show (Tr.toDs (ds.map .dat)).map PyData.list = _
  rw [toDs_dat]; rfl
theorem ne_nil {n : Nat} {ds : List PyData} (h : Sh n (.list ds)) (hn : n ≤ 64) : neD (.list ds) (.list []) = some (!ds.isEmpty) := by
  show (if SeqAt.shaped (.list ds) && SeqAt.shaped (.list []) then some (!PyData.eqv (.list ds) (.list [])) else none) = _
  rw [h.ok hn]
  have : SeqAt.shaped (.list []) = true := by decide +kernel
  rw [this]
  cases ds with
  | nil => rfl
  | cons d ds => rfl
section
variable {z s : Int} {x y : S} {p : Past} {md : Md} {n : Nat} {g : Bg}
section
variable {i pr ct : Int} (h : F_Hall_need_theirs [.own .pin (HT z s x p), .val (.int i), .val (.int (n : Nat))] = some (.ret (.dat .none), [.own .pin (HT z s x p), .val (.int i), .val (.int (n : Nat))])) (hg : x.made[n]? = some g) (hw : WdOk g)
end
end
end SH

end

section
set_option Elab.async false
set_option linter.all false
set_option maxRecDepth 100000
namespace SP
open PySem PySem.Spec PyProof.Rows L2 VL SM
noncomputable def lotsZ (c : Int) (d : Str) : Int := if d = sBrow then 10 * c else c
noncomputable def sgD (a : Str) (b c : Int) (d : Str) : PyData := .tuple [.str a, .int b, .int c, .str d]
noncomputable def chkSg (a : Str) (b c : Nat) (d : Str) : Bool := match F_is_sign [.val (sgD a b (c + 1) d)], F_lots_of [.val (sgD a b (c + 1) d)], F__law_lots [.val (sgD a b (c + 1) d)] with
  | some (.ret (.dat (.bool true)), _), some (.ret (.dat (.int i)), _), some (.ret (.dat (.int j)), _) => decide (i = lotsZ (c + 1) d) && decide (j = lotsZ (c + 1) d) && SeqAt.shaped (sgD a b (c + 1) d)
  | _, _, _ => false
structure SgOk (a : Str) (b c : Int) (d : Str) : Prop where
  ha : a = sIn ∨ a = sOut
  b0 : 0 ≤ b
  b9 : b ≤ 9
  c1 : 1 ≤ c
  c9 : c ≤ 9
  hd : d = sChin ∨ d = sBrow
theorem sgOk_of {d : PyData} (h : IsSign d) : ∃ a b c e, d = sgD a b c e ∧ SgOk a b c e := by
  obtain ⟨ha, c0, c1, h0, h1, hp⟩ := h
  exact ⟨_, _, _, _, rfl, ⟨ha, c0, c1, h0, h1, hp⟩⟩
end SP

end

section
set_option Elab.async false
set_option linter.all false
set_option maxRecDepth 100000
namespace SP
open PySem PySem.Spec PyProof.Rows L2 VL SM
noncomputable def meantZ (c f : Int) : Int := if (f - c) % 10 ≤ 5 then c + (f - c) % 10 else if c ≥ 10 - (f - c) % 10 then c - (10 - (f - c) % 10) else c + (f - c) % 10
inductive JM (c f : Int) (i : Nat) : Rho → Prop where
  | mk {s : Sl} (h : frB (some s) = true) (hn : ∀ j : Nat, j < i → ¬ (c + j) % 10 = f ∧ ¬ ((j : Int) ≤ c ∧ (c - j) % 10 = f)) : JM c f i [.val (.int c), .val (.int f), s]
end SP

end

section
set_option Elab.async false
set_option linter.all false
set_option maxRecDepth 100000
namespace SP
open PySem PySem.Spec PyProof.Rows L2 VL SM
section
variable {z s : Int} {x y : St} {p q : List (St × PyData)} {m m2 : Md} {os : List Of}
noncomputable def Of.Ok (o : Of) : Prop := SgOk o.a o.b o.c o.d
noncomputable def after (o : Of) (os : List Of) : List Of := (os.filter fun e => !mine o.mem o.a e) ++ [o]
end
end SP

end

section
set_option Elab.async false
set_option linter.all false
set_option maxRecDepth 100000
set_option maxHeartbeats 1000000
namespace SH
open PySem PySem.Spec PyProof.Rows L2 VL SM SP
structure HeldOk (os : List Of) (off : Int) : Prop where
  up : os.Pairwise fun a b => a.n < b.n
  lt : ∀ o ∈ os, 0 ≤ o.n ∧ o.n < off
  ok : ∀ o ∈ os, o.Ok
  len : os.length < 10000
section
variable {z s : Int} {x y : S} {p : Past} {md : Md} {n : Nat} {g : Bg}
end
end SH

end

section
set_option Elab.async false
set_option linter.all false
set_option maxRecDepth 100000
set_option maxHeartbeats 1000000
namespace SH
open PySem PySem.Spec PyProof.Rows L2 VL SM SP
theorem seq_nx {g h : MS} {ρ ρ1 : Rho} (e : g ρ = some (.nx ρ1)) : sSeq g h ρ = h ρ1 := by
  unfold sSeq
  rw [e]
theorem rng1 {f : M (List Rv)} {ρ : Rho} {n : Nat} (h : f ρ = some (.ok [.d (.int (n : Nat))] ρ)) (hn : n < 100000) : iRange1 f ρ = some (.ok ((List.range n).map fun k => .int (0 + (k : Nat))) ρ) := by
  unfold iRange1 bnd
  rw [h]
  show (if -(2 ^ 62) ≤ ((n : Nat) : Int) ∧ ((n : Nat) : Int) < 2 ^ 62 then some (Er.ok (rangeD 0 ((n : Nat) : Int).toNat) ρ) else none) = _
  rw [if_pos (by omega)]
  rfl
section
variable {z s : Int} {x y : S} {p : Past} {md : Md} {n : Nat} {g : Bg}
end
end SH

end

section
set_option Elab.async false
set_option linter.all false
set_option maxRecDepth 100000
set_option maxHeartbeats 1000000
namespace SH
open PySem PySem.Spec PyProof.Rows L2 VL SM SP
section
variable {z s : Int} {x y : S} {p : Past} {md : Md} {n : Nat} {g : Bg}
noncomputable def holdS (x : S) (o : Of) : S := { x with held := after o x.held, off := o.n + 1 }
end
end SH

end

section
set_option Elab.async false
set_option linter.all false
set_option maxRecDepth 100000
set_option maxHeartbeats 1000000
namespace SH
open PySem PySem.Spec PyProof.Rows L2 VL SM SP
section
variable {z s : Int} {x y : S} {p : Past} {md : Md} {n : Nat} {g : Bg}
end
end SH

end

section
set_option Elab.async false
set_option linter.all false
set_option maxRecDepth 100000
set_option maxHeartbeats 1000000
namespace SH
open PySem PySem.Spec PyProof.Rows L2 VL SM SP
section
variable {z s : Int} {x y : S} {p : Past} {md : Md} {n : Nat} {g : Bg}
end
end SH

end

section
set_option Elab.async false
set_option linter.all false
set_option maxRecDepth 100000
namespace SH
open PySem PySem.Spec PyProof.Rows L2 VL SM SP
end SH

end

section

end



section
set_option Elab.async false
set_option linter.all false
set_option maxRecDepth 100000
set_option maxHeartbeats 1000000
namespace SH
open PySem PySem.Spec PyProof.Rows L2 VL SM SP
theorem setSl_f {ρ : Rho} {i : Nat} {s : Sl} (h : frB ρ[i]? = true) : setSl ρ i s = some (ρ.set i s) := by
  unfold setSl
  split
  · rename_i h1; rw [h1] at h; cases h
  · rename_i h1; rw [h1] at h; cases h
  · rename_i h1; rw [h1] at h; cases h
  · rfl
  · rename_i h1; rw [h1] at h; cases h
section
variable {z s : Int} {x y : S} {p : Past} {md : Md} {n : Nat} {g : Bg} {rest : Rho}
end
end SH

end

section
set_option Elab.async false
set_option linter.all false
set_option maxRecDepth 100000
set_option maxHeartbeats 1000000
namespace SH
open PySem PySem.Spec PyProof.Rows L2 VL SM SP
inductive Cl where
  | hold (i : Int) (d : PyData)
  | lower (i : Int) (a : Str)
  | take (i o : Int) (lk sw se : PyData)
  | inn (i n : Int)
  | settle (n : Int)
  | cons (i n pr ct : Int)
  | pass (t : Int)
  | close
  | back
noncomputable def Cl.d : Cl → PyData
  | .hold i d => .tuple [.str s_hold, .int i, d]
  | .lower i a => .tuple [.str s_lower, .int i, .str a]
  | .take i o lk sw se => .tuple [.str s_take, .int i, .int o, lk, sw, se]
  | .inn i n => .tuple [.str sIn, .int i, .int n]
  | .settle n => .tuple [.str s_settle, .int n]
  | .cons i n pr ct => .tuple [.str s_consent, .int i, .int n, .int pr, .int ct]
  | .pass t => .tuple [.str s_pass, .int t]
  | .close => .tuple [.str s_close]
  | .back => .tuple [.str s_back]
section
variable {z s : Int} {x y : S} {p : Past} {md : Md} {n : Nat} {g : Bg} {rest : Rho}
end
end SH

end

section
set_option Elab.async false
set_option linter.all false
set_option maxRecDepth 100000
set_option maxHeartbeats 1000000
namespace SH
open PySem PySem.Spec PyProof.Rows L2 VL SM SP
section
variable {z s : Int} {x y : S} {p : Past} {md : Md} {n : Nat} {g : Bg} {rest : Rho}
end
end SH

end

section
set_option Elab.async false
set_option linter.all false
set_option maxRecDepth 100000
set_option maxHeartbeats 1000000
namespace SH
open PySem PySem.Spec PyProof.Rows L2 VL SM SP
section
variable {z s : Int} {x y : S} {p : Past} {md : Md} {n : Nat} {g : Bg} {rest : Rho}
end
end SH

end

section
set_option Elab.async false
set_option linter.all false
set_option maxRecDepth 100000
set_option maxHeartbeats 1000000
namespace SH
open PySem PySem.Spec PyProof.Rows L2 VL SM SP
structure CoOk (g : Bg) : Prop where
  nd : (g.co.map (·.1)).Nodup
  nh : (g.ch.map (·.1)).Nodup
  eq : ∀ r, r ∈ g.co ↔ r ∈ g.ch
  len : g.co.length ≤ 100
  lnh : g.ch.length ≤ 99
section
variable {z s : Int} {x y : S} {p : Past} {md : Md} {n : Nat} {g : Bg} {rest : Rho} {t u : Tr}
end
end SH

end

section
set_option Elab.async false
set_option linter.all false
set_option maxRecDepth 100000
set_option maxHeartbeats 1000000
namespace SH
open PySem PySem.Spec PyProof.Rows L2 VL SM SP
section
variable {z s : Int} {x y : S} {p : Past} {md : Md} {n : Nat} {g : Bg} {rest : Rho} {t u : Tr}
end
end SH

end

section
set_option Elab.async false
set_option linter.all false
set_option maxRecDepth 100000
set_option maxHeartbeats 1000000
namespace SH
open PySem PySem.Spec PyProof.Rows L2 VL SM SP
noncomputable def alks (d : PyData) : List PyData := match F_alikes [.val d] with
  | some (.ret (.lst ts), _) => (flat ts).getD []
  | _ => []
noncomputable def isSgB (d : PyData) : Bool := match F_is_sign [.val d] with
  | some (.ret (.dat (.bool b)), _) => b
  | _ => false
noncomputable def isShB (d : PyData) : Bool := match F_is_showing [.val d] with
  | some (.ret (.dat (.bool b)), _) => b
  | _ => false
noncomputable def lotsD (d : PyData) : Int := match F_lots_of [.val d] with
  | some (.ret (.dat (.int i)), _) => i
  | _ => 0
structure ShOk (c : Int) (d : Str) : Prop where
  c1 : 1 ≤ c
  c9 : c ≤ 9
  hd : d = sChin ∨ d = sBrow
structure TS (d : PyData) : Prop where
  f : ∃ outs, F_is_sign [.val d] = some (.ret (.dat (.bool (isSgB d))), outs)
  g : isSgB d = true → IsSign d
  s : Sh 4 d
structure TW (d : PyData) : Prop where
  f : ∃ outs, F_is_showing [.val d] = some (.ret (.dat (.bool (isShB d))), outs)
  g : isShB d = true → IsShow d
  s : Sh 4 d
structure AlOk' (d : PyData) : Prop where
  f : ∃ outs, F_alikes [.val d] = some (.ret (.lst ((alks d).map .dat)), outs)
  s : Sh 1 d
  sa : ∀ e ∈ alks d, Sh 1 e
  l : (alks d).length ≤ 4
end SH

end

section
set_option Elab.async false
set_option linter.all false
set_option maxRecDepth 100000
set_option maxHeartbeats 1000000
namespace SH
open PySem PySem.Spec PyProof.Rows L2 VL SM SP
theorem Of.isSign {o : Of} (h : o.Ok) : IsSign o.sg := .mk h.ha h.b0 h.b9 h.c1 h.c9 h.hd
section
variable {z s : Int} {x y : S} {p : Past} {md : Md} {n : Nat} {g : Bg} {rest : Rho} {t u : Tr} {o : Of} {lk sw se : PyData}
end
end SH

end

section
set_option Elab.async false
set_option linter.all false
set_option maxRecDepth 100000
set_option maxHeartbeats 1000000
namespace SH
open PySem PySem.Spec PyProof.Rows L2 VL SM SP
noncomputable def cntT (o : Of) (se : PyData) : Int := if o.lf < lotsD se then o.lf else lotsD se
noncomputable def newB (x : S) (o : Of) (i c : Int) (a2 : Str) (b2 : Int) (lk sw se : PyData) : Bg := ⟨o.mem, i, o.sg, lk, sw, se, decide (o.a = sIn), !decide (a2 = sIn), o.pr, cntT o se, meantZ c b2, lotsD sw, x.mo, [], s_x, c, [], []⟩
noncomputable def lessN (o : Of) (k : Int) : Of := { o with lf := o.lf - k }
noncomputable def heldT (o : Of) (k : Int) (os : List Of) : List Of := if o.lf = k then os.filter (fun e => decide (e.n ≠ o.n)) else os.map fun e => if e.n = o.n then lessN o k else e
noncomputable def tkS (x : S) (o : Of) (i c : Int) (a2 : Str) (b2 : Int) (lk sw se : PyData) : S := { x with held := heldT o (cntT o se) x.held, made := x.made ++ [newB x o i c a2 b2 lk sw se] }
theorem min2 {a b : Int} : min2D [.int a, .int b] = some (.int (if b < a then b else a)) := rfl
section
variable {z s : Int} {x y : S} {p : Past} {md : Md} {n : Nat} {g : Bg} {rest : Rho} {t u : Tr} {o : Of} {lk sw se : PyData}
end
end SH

end

section
set_option Elab.async false
set_option linter.all false
set_option maxRecDepth 100000
set_option maxHeartbeats 2000000
namespace SH
open PySem PySem.Spec PyProof.Rows L2 VL SM SP
section
variable {z s : Int} {x y : S} {p : Past} {md : Md} {n : Nat} {g : Bg} {rest : Rho} {t u : Tr} {o : Of} {sw se : PyData}
end
end SH

end

section
set_option Elab.async false
set_option linter.all false
set_option maxRecDepth 100000
set_option maxHeartbeats 2000000
namespace SH
open PySem PySem.Spec PyProof.Rows L2 VL SM SP
section
variable {z s : Int} {x y : S} {p : Past} {md : Md} {n : Nat} {g : Bg} {rest : Rho} {t u : Tr} {o : Of} {sw se : PyData}
end
end SH

end

section
set_option Elab.async false
set_option linter.all false
set_option maxRecDepth 100000
set_option maxHeartbeats 2000000
namespace SH
open PySem PySem.Spec PyProof.Rows L2 VL SM SP
section
variable {z s : Int} {x y : S} {p : Past} {md : Md} {n : Nat} {g : Bg} {rest : Rho} {t u : Tr} {o : Of} {sw se : PyData}
end
end SH

end

section
set_option Elab.async false
set_option linter.all false
set_option maxRecDepth 100000
set_option maxHeartbeats 2000000
namespace SH
open PySem PySem.Spec PyProof.Rows L2 VL SM SP
section
variable {z s : Int} {x y : S} {p : Past} {md : Md} {n : Nat} {g : Bg} {rest : Rho} {t u : Tr} {o : Of} {sw se : PyData}
end
end SH

end

section
set_option Elab.async false
set_option linter.all false
set_option maxRecDepth 100000
set_option maxHeartbeats 2000000
namespace SH
open PySem PySem.Spec PyProof.Rows L2 VL SM SP
section
variable {z s : Int} {x y : S} {p : Past} {md : Md} {n : Nat} {g : Bg} {rest : Rho} {t u a b c d a' b' c' d' : Tr}
structure ClOk (c : Cl) : Prop where
  h : ∀ i d, c = .hold i d → TS d
  l : ∀ i a, c = .lower i a → PalmS a
  t : ∀ i o lk sw se, c = .take i o lk sw se → TS lk ∧ TW sw ∧ TW se
end
end SH

end

section
set_option Elab.async false
set_option linter.all false
set_option maxRecDepth 100000
set_option maxHeartbeats 2000000
namespace SH
open PySem PySem.Spec PyProof.Rows L2 VL SM SP
section
variable {z s : Int} {x y : S} {p : Past} {md : Md} {n : Nat} {g : Bg} {rest : Rho}
noncomputable def Cl.w : Cl → Str
  | .hold _ _ => s_hold
  | .lower _ _ => s_lower
  | .take _ _ _ _ _ => s_take
  | .inn _ _ => sIn
  | .settle _ => s_settle
  | .cons _ _ _ _ => s_consent
  | .pass _ => s_pass
  | .close => s_close
  | .back => s_back
theorem Cl.d0 {c : Cl} : subD c.d (.int 0) = some (.str c.w) := by cases c <;> exact VR.sub0
end
end SH

end

section
set_option Elab.async false
set_option linter.all false
set_option maxRecDepth 100000
set_option maxHeartbeats 2000000
namespace SH
open PySem PySem.Spec PyProof.Rows L2 VL SM SP
section
variable {z s : Int} {x y x' : S} {p p' : Past} {md : Md} {n : Nat} {g : Bg} {rest : Rho} {t u : Tr}
end
end SH

end

section
set_option Elab.async false
set_option linter.all false
set_option maxRecDepth 100000
namespace SP
open PySem PySem.Spec PyProof.Rows L2 VL
structure Pr where
  m : Int
  p : Int
  c : Int
noncomputable def Pr.D (x : Pr) : PyData := .tuple [.int x.m, .int x.p, .int x.c]
structure PrOk (x : Pr) : Prop where
  m0 : 0 ≤ x.m
  p0 : 0 ≤ x.p
  p1 : x.p ≤ 1000000000
  c0 : 1 ≤ x.c
  c1 : x.c ≤ 1000000
noncomputable def mx : List Int → Int
  | [] => 0
  | x :: xs => maxI x xs
noncomputable def mn : List Int → Int
  | [] => 0
  | x :: xs => minI x xs
noncomputable def dst (xs : List Int) : List Int := xs.foldl (fun ks x => if x ∈ ks then ks else ks ++ [x]) []
noncomputable def grp (k : Int) (ps : List Pr) : List Pr := ps.filter fun x => x.m == k
noncomputable def ms (ps : List Pr) : List Int := ps.map (·.m)
noncomputable def pr (ps : List Pr) : List Int := ps.map (·.p)
noncomputable def lots (ps : List Pr) : Int := (ps.map (·.c)).sum
theorem lots_app {ps qs : List Pr} : lots (ps ++ qs) = lots ps + lots qs := by
  unfold lots
  rw [List.map_append]
  generalize qs.map (·.c) = ys
  induction ps with
  | nil => simp
  | cons x xs ih => simp [ih]; omega
theorem pr_app {ps qs : List Pr} : pr (ps ++ qs) = pr ps ++ pr qs := by simp [pr]
noncomputable def cnt (y : Int) (ps : List Pr) : Int := lots (ps.filter fun x => x.p == y)
theorem cnt_app {y : Int} {ps qs : List Pr} : cnt y (ps ++ qs) = cnt y ps + cnt y qs := by
  unfold cnt
  rw [List.filter_append, lots_app]
structure Best (qs : List Pr) (x : Int) : Prop where
  i : x ∈ pr qs
  b : ∀ y ∈ pr qs, cnt y qs < cnt x qs ∨ cnt y qs = cnt x qs ∧ y ≤ x
theorem Best.two {qs : List Pr} {x : Int} (b : Best qs x) : Best (qs ++ qs) x := by
  refine ⟨by rw [pr_app]; exact List.mem_append_left _ b.i, fun y hy => ?_⟩
  rw [pr_app] at hy
  have hy : y ∈ pr qs := (List.mem_append.mp hy).elim id id
  rw [cnt_app, cnt_app]
  have := b.b y hy
  omega
noncomputable def mxm (ps : List Pr) : Int := (ms ps).foldl (fun a m => if m > a then m else a) (-1)
noncomputable def isL (ps : List Pr) (i : Nat) : Bool := match ps[i]? with
  | some x => decide (x.m < mxm (ps.take i))
  | none => false
noncomputable def lat (ps : List Pr) : List Nat := (List.range ps.length).filter (isL ps)
end SP

end

section
set_option Elab.async false
set_option linter.all false
set_option maxRecDepth 100000
namespace SP
open PySem PySem.Spec PyProof.Rows L2 VL SM
noncomputable def dD (ks : List Int) (f : Int → PyData) : List (Key × PyData) := ks.map fun k => (.inl k, f k)
noncomputable def latD (ps : List Pr) : List PyData := (lat ps).map fun i => .int (i : Nat)
inductive JL (ps qs : List Pr) : Rho → Prop where
  | mk {a b : Sl} (ha : frB (some a) = true) (hb : frB (some b) = true) : JL ps qs [.val (.list (ps.map Pr.D)), .val (.int (mxm qs)), .own .free (tr (latD qs)), a, b]
noncomputable def rT (k : Int) (ps : List Pr) : List PyData := [.int (mn (pr (grp k ps))), .int (mx (pr (grp k ps))), .int (lots (grp k ps))]
inductive JR (ps qs : List Pr) : Rho → Prop where
  | mk {a b c d e f : Sl} (ha : frB (some a) = true) (ha' : unown a = true) (hb : frB (some b) = true) (hc : frB (some c) = true) (hd : frB (some d) = true) (he : frB (some e) = true) (hf : frB (some f) = true) :
    JR ps qs [.val (.list (ps.map Pr.D)), .own .free (.dk (toT (dD (dst (ms qs)) fun k => .tuple (rT k qs)))), a, b, c, d, e, f]
end SP

end

section
set_option Elab.async false
set_option linter.all false
set_option maxRecDepth 100000
namespace SP
open PySem PySem.Spec PyProof.Rows L2 VL SM
inductive JC (ps qs : List Pr) (L f0 : Int) : Rho → Prop where
  | mk {a b c d : Sl} (ha : unown a = true) (ha' : frB (some a) = true) (hb : frB (some b) = true) (hc : frB (some c) = true) (hc' : unown c = true) (hd : frB (some d) = true) :
    JC ps qs L f0 [.val (.list (ps.map Pr.D)), .val (.int f0), .val (.int L), a, .own .free (.dk (toT (dD (dst (pr (grp L qs))) fun y => .int (cnt y (grp L qs))))), b, c, d]
end SP

end

section
set_option Elab.async false
set_option linter.all false
set_option maxRecDepth 100000
set_option maxHeartbeats 2000000
namespace SH
open PySem PySem.Spec PyProof.Rows L2 VL SM SP
theorem two_le {l : List Int} {a b : Int} (nd : l.Nodup) (h : ∀ i ∈ l, i = a ∨ i = b) : l.length ≤ 2 := by
  match l, nd, h with
  | [], _, _ => simp
  | [_], _, _ => simp
  | [_, _], _, _ => simp
  | u :: v :: w :: r, nd, h =>
    exfalso
    have h1 := h u (by simp)
    have h2 := h v (by simp)
    have h3 := h w (by simp)
    simp only [List.nodup_cons, List.mem_cons, not_or] at nd
    obtain ⟨⟨n1, n2, _⟩, ⟨n3, _⟩, _⟩ := nd
    omega
structure DL where
  s : Int
  b : Int
  p : Int
  c : Int
  m : Int
noncomputable def DL.D (d : DL) : PyData := .tuple [.int d.s, .int d.b, .int d.p, .int d.c, .int d.m]
noncomputable def PB (N : Nat) (p : Int) : Prop := 0 ≤ p ∧ p ≤ 100000000 + 10 * (N : Int)
noncomputable def CB (c : Int) : Prop := 0 ≤ c ∧ c ≤ 1000000
theorem PB.mono {N M : Nat} {p : Int} (h : PB N p) (hm : N ≤ M) : PB M p := ⟨h.1, by have := h.2; omega⟩
structure DLOk (z : Int) (N : Nat) (d : DL) : Prop where
  s0 : 0 ≤ d.s
  s1 : d.s < z
  b0 : 0 ≤ d.b
  b1 : d.b < z
  p : PB N d.p
  c : CB d.c
structure GOk (z : Int) (N : Nat) (g : Bg) : Prop where
  wd : WdOk g
  co : CoOk g
  a0 : 0 ≤ g.a
  a1 : g.a < z
  b0 : 0 ≤ g.b
  b1 : g.b < z
  p1 : PB N g.p1
  p2 : PB N g.p2
  cl : PB N g.cl
  c1 : CB g.c1
  c2 : CB g.c2
  sg : IsSign g.sg
  lk : IsSign g.lk
  sw : IsShow g.sw
  se : IsShow g.se
  im : ∀ i ∈ g.inn, i = g.a ∨ i = g.b
  nd : g.inn.Nodup
  cm : ∀ r ∈ g.ch, r.1 = g.a ∨ r.1 = g.b
structure Inv (z s : Int) (N : Nat) (x : S) : Prop where
  hh : HeldOk x.held x.off
  hm : ∀ o ∈ x.held, 0 ≤ o.mem ∧ o.mem < z ∧ PB N o.pr ∧ 0 ≤ o.lf ∧ o.lf ≤ 90
  off : 0 ≤ x.off ∧ x.off ≤ N
  gs : ∀ g ∈ x.made, GOk z N g
  up : ∃ ps : List Pr, x.up = ps.map Pr.D ∧ ∀ q ∈ ps, PB N q.p
  dl : ∃ ds : List DL, x.dl = ds.map DL.D ∧ ∀ q ∈ ds, DLOk z N q
  lm : x.made.length ≤ N
  lu : x.up.length ≤ N
  ld : x.dl.length ≤ N
  lh : x.held.length ≤ N
section
variable {z s : Int} {x y x' : S} {p p' : Past} {md : Md} {n N : Nat} {g : Bg} {rest : Rho} {t u : Tr}
theorem GOk.mono {M : Nat} (G : GOk z N g) (h : N ≤ M) : GOk z M g := ⟨G.wd, G.co, G.a0, G.a1, G.b0, G.b1, G.p1.mono h, G.p2.mono h, G.cl.mono h, G.c1, G.c2, G.sg, G.lk, G.sw, G.se, G.im, G.nd, G.cm⟩
theorem Inv.mono {M : Nat} (I : Inv z s N x) (h : N ≤ M) : Inv z s M x := ⟨I.hh, fun o ho => ⟨(I.hm o ho).1, (I.hm o ho).2.1, (I.hm o ho).2.2.1.mono h, (I.hm o ho).2.2.2⟩, ⟨I.off.1, by have := I.off.2; omega⟩, fun g hg => (I.gs g hg).mono h, I.up.imp fun ps q => ⟨q.1, fun r hr => (q.2 r hr).mono h⟩, I.dl.imp fun ds q => ⟨q.1, fun r hr => ⟨(q.2 r hr).s0, (q.2 r hr).s1, (q.2 r hr).b0, (q.2 r hr).b1, (q.2 r hr).p.mono h, (q.2 r hr).c⟩⟩, Nat.le_trans I.lm h, Nat.le_trans I.lu h, Nat.le_trans I.ld h, Nat.le_trans I.lh h⟩
theorem Inv.wds (I : Inv z s N x) : ∀ g ∈ x.made, WdOk g := fun g h => (I.gs g h).wd
theorem GOk.word (G : GOk z N g) {w : Str} (hw : w = s_x ∨ w = s_done ∨ w = s_void) : GOk z N { g with wd := w } := ⟨⟨hw, G.wd.l⟩, ⟨G.co.nd, G.co.nh, G.co.eq, G.co.len, G.co.lnh⟩, G.a0, G.a1, G.b0, G.b1, G.p1, G.p2, G.cl, G.c1, G.c2, G.sg, G.lk, G.sw, G.se, G.im, G.nd, G.cm⟩
theorem Inv.set (I : Inv z s N x) (G : GOk z N g) : Inv z s N { x with made := x.made.set n g } := by
  refine ⟨I.hh, I.hm, I.off, fun g' h => ?_, I.up, I.dl, ?_, I.lu, I.ld, I.lh⟩
  · rcases List.mem_or_eq_of_mem_set h with h | rfl
    · exact I.gs g' h
    · exact G
  · show (x.made.set n g).length ≤ N
    rw [List.length_set]
    exact I.lm
theorem Inv.done (I : Inv z s N x) (G : GOk z N g) {pr ct : Int} (hp : PB N pr) (hc : CB ct) : Inv z s (N + 1) (done1 x n g pr ct) := by
  have J := (I.set (n := n) (G.word (w := s_done) (.inr (.inl rfl)))).mono (Nat.le_succ N)
  refine ⟨J.hh, J.hm, J.off, J.gs, ?_, ?_, J.lm, ?_, ?_, J.lh⟩
  · obtain ⟨ps, e, h⟩ := I.up
    refine ⟨ps ++ [⟨g.mo, pr, ct⟩], ?_, fun q hq => ?_⟩
    · show x.up ++ [_] = _
      rw [e, List.map_append]
      rfl
    · rcases List.mem_append.mp hq with hq | hq
      · exact (h q hq).mono (Nat.le_succ N)
      · rw [List.mem_singleton.mp hq]; exact hp.mono (Nat.le_succ N)
  · obtain ⟨ds, e, h⟩ := I.dl
    refine ⟨ds ++ [⟨if g.u1 = true then g.b else g.a, if g.u1 = true then g.a else g.b, pr, ct, g.mo⟩], ?_, fun q hq => ?_⟩
    · show x.dl ++ [_] = _
      rw [e, List.map_append]
      rfl
    · rcases List.mem_append.mp hq with hq | hq
      · have := h q hq
        exact ⟨this.s0, this.s1, this.b0, this.b1, this.p.mono (Nat.le_succ N), this.c⟩
      · rw [List.mem_singleton.mp hq]
        refine ⟨?_, ?_, ?_, ?_, hp.mono (Nat.le_succ N), hc⟩ <;> simp only <;> split <;> first | exact G.a0 | exact G.a1 | exact G.b0 | exact G.b1
  · show (x.up ++ [_]).length ≤ N + 1
    have := I.lu
    simp; omega
  · show (x.dl ++ [_]).length ≤ N + 1
    have := I.ld
    simp; omega
theorem Inv.hold (I : Inv z s N x) (hN : N < 9000) {o : Of} (ho : o.Ok) (hn : o.n = x.off) (h0 : 0 ≤ o.mem) (h1 : o.mem < z) (hp : PB (N + 1) o.pr) (hl0 : 0 ≤ o.lf ∧ o.lf ≤ 90) : Inv z s (N + 1) (holdS x o) := by
  have J := I.mono (Nat.le_succ N)
  have hl : (after o x.held).length ≤ N + 1 := by
    unfold after
    have := List.length_filter_le (fun e => !mine o.mem o.a e) x.held
    have := I.lh
    simp; omega
  have mem : ∀ e ∈ after o x.held, e ∈ x.held ∨ e = o := fun e he => by
    unfold after at he
    rcases List.mem_append.mp he with he | he
    · exact .inl (List.mem_filter.mp he).1
    · exact .inr (List.mem_singleton.mp he)
  refine ⟨⟨?_, fun e he => ?_, fun e he => ?_, by show (after o x.held).length < _; omega⟩, fun e he => ?_, ?_, J.gs, J.up, J.dl, Nat.le_succ_of_le I.lm, Nat.le_succ_of_le I.lu, Nat.le_succ_of_le I.ld, hl⟩
  · show (after o x.held).Pairwise _
    unfold after
    refine List.pairwise_append.mpr ⟨I.hh.up.filter _, List.pairwise_singleton .., fun a ha b hb => ?_⟩
    rw [List.mem_singleton.mp hb, hn]
    exact (I.hh.lt a (List.mem_filter.mp ha).1).2
  · show 0 ≤ e.n ∧ e.n < o.n + 1
    rcases mem e he with h | rfl
    · have := I.hh.lt e h; omega
    · have := I.off.1; omega
  · rcases mem e he with h | rfl
    · exact I.hh.ok e h
    · exact ho
  · rcases mem e he with h | rfl
    · exact J.hm e h
    · exact ⟨h0, h1, hp, hl0⟩
  · show 0 ≤ o.n + 1 ∧ o.n + 1 ≤ ((N + 1 : Nat) : Int)
    have := I.off; omega
theorem heldT_mem {o e : Of} {k : Int} {os : List Of} (h : e ∈ heldT o k os) : e ∈ os ∨ e = lessN o k := by
  unfold heldT at h
  split at h
  · exact .inl (List.mem_filter.mp h).1
  · obtain ⟨q, hq, rfl⟩ := List.mem_map.mp h
    split
    · exact .inr rfl
    · exact .inl hq
theorem Inv.take (I : Inv z s N x) (hN : N < 9000) {o : Of} {i c : Int} {a2 : Str} {b2 c2 : Int} {d2 : Str} {sw se : PyData} (ho : o ∈ x.held) (i0 : 0 ≤ i) (i1 : i < z) (hs : SgOk a2 b2 c2 d2) (h2 : IsShow sw) (h3 : IsShow se) (c0 : PB N c) (hm : PB (N + 1) (meantZ c b2)) (q2 : CB (lotsD sw)) (q3 : CB (lotsD se)) : Inv z s (N + 1) (tkS x o i c a2 b2 (sgD a2 b2 c2 d2) sw se) := by
  have hl : (heldT o (cntT o se) x.held).length ≤ N := by
    unfold heldT
    split
    · exact Nat.le_trans (List.length_filter_le ..) I.lh
    · rw [List.length_map]; exact I.lh
  have J := I.mono (Nat.le_succ N)
  have io := J.hm o ho
  have hcn : CB (cntT o se) ∧ cntT o se ≤ o.lf := by
    unfold cntT CB
    have := io.2.2.2
    have := q3.1
    have := q3.2
    split <;> omega
  refine ⟨⟨?_, fun e he => ?_, fun e he => ?_, by show (heldT o (cntT o se) x.held).length < _; omega⟩, fun e he => ?_, J.off, fun g hg => ?_, J.up, J.dl, ?_, Nat.le_succ_of_le I.lu, Nat.le_succ_of_le I.ld, Nat.le_succ_of_le hl⟩
  · show (heldT o (cntT o se) x.held).Pairwise _
    unfold heldT
    split
    · exact I.hh.up.filter _
    · rw [List.pairwise_map]
      refine I.hh.up.imp ?_
      intro a b h
      have e : ∀ q : Of, (if q.n = o.n then lessN o (cntT o se) else q).n = q.n := fun q => by
        split
        · rename_i h; exact h.symm
        · rfl
      rw [e, e]
      exact h
  · rcases heldT_mem he with h | rfl
    · exact I.hh.lt e h
    · exact I.hh.lt o ho
  · rcases heldT_mem he with h | rfl
    · exact I.hh.ok e h
    · exact I.hh.ok o ho
  · rcases heldT_mem he with h | rfl
    · exact J.hm e h
    · refine ⟨io.1, io.2.1, io.2.2.1, ?_⟩
      show 0 ≤ o.lf - cntT o se ∧ o.lf - cntT o se ≤ 90
      have := io.2.2.2
      have := hcn.1.1
      have := hcn.2
      omega
  · rcases List.mem_append.mp hg with hg | hg
    · exact J.gs g hg
    · rw [List.mem_singleton.mp hg]
      exact ⟨⟨.inl rfl, by show 0 ≤ 2; decide⟩, ⟨.nil, .nil, fun r => Iff.rfl, by show 0 ≤ 100; decide, by show 0 ≤ 99; decide⟩, io.1, io.2.1, i0, i1, io.2.2.1, hm, c0.mono (Nat.le_succ N), hcn.1, q2, Of.isSign (I.hh.ok o ho), .mk hs.ha hs.b0 hs.b9 hs.c1 hs.c9 hs.hd, h2, h3, fun _ h => (nomatch h), .nil, fun _ h => (nomatch h)⟩
  · show (x.made ++ [_]).length ≤ N + 1
    have := I.lm
    simp; omega
end
end SH

end

section
set_option Elab.async false
set_option linter.all false
set_option maxRecDepth 100000
set_option maxHeartbeats 2000000
namespace SH
open PySem PySem.Spec PyProof.Rows L2 VL SM SP
structure Good (d : PyData) : Prop where
  s : Sh 5 d
  b : ∃ e k, d = .tuple [e, .str k] ∧ isiD .bool e = some false
section
variable {z s : Int} {x y x' : S} {p p' : Past} {md : Md} {n N : Nat} {g : Bg} {rest : Rho} {t u : Tr} {c : Cl}
end
end SH

end

section
set_option Elab.async false
set_option linter.all false
set_option maxRecDepth 100000
set_option maxHeartbeats 2000000
namespace SH
open PySem PySem.Spec PyProof.Rows L2 VL SM SP
section
variable {z s : Int} {x y x' : S} {p p' : Past} {md : Md} {n N : Nat} {g : Bg} {rest : Rho} {t u : Tr} {c : Cl}
theorem GOk.inn (G : GOk z N g) {i : Int} (hi : i = g.a ∨ i = g.b) (hn : i ∉ g.inn) : GOk z N { g with inn := g.inn ++ [i] } := by
  have nd : (g.inn ++ [i]).Nodup := by
    rw [List.nodup_append]
    refine ⟨G.nd, by simp, fun a ha b hb e => hn ?_⟩
    rw [← List.mem_singleton.mp hb, ← e]
    exact ha
  have im : ∀ k ∈ g.inn ++ [i], k = g.a ∨ k = g.b := fun k hk => by
    rcases List.mem_append.mp hk with hk | hk
    · exact G.im k hk
    · rw [List.mem_singleton.mp hk]; exact hi
  exact ⟨⟨G.wd.w, two_le nd im⟩, ⟨G.co.nd, G.co.nh, G.co.eq, G.co.len, G.co.lnh⟩, G.a0, G.a1, G.b0, G.b1, G.p1, G.p2, G.cl, G.c1, G.c2, G.sg, G.lk, G.sw, G.se, im, nd, G.cm⟩
end
end SH

end

section
set_option Elab.async false
set_option linter.all false
set_option maxRecDepth 100000
namespace ST
open PySem PySem.Spec PyProof.Rows L2 VL SM
structure Dl where
  s : Int
  b : Int
  p : Int
  c : Int
  m : Int
noncomputable def Dl.D (d : Dl) : PyData := .tuple [.int d.s, .int d.b, .int d.p, .int d.c, .int d.m]
structure DlOk (n : Nat) (d : Dl) : Prop where
  s0 : 0 ≤ d.s
  s1 : d.s < n
  b0 : 0 ≤ d.b
  b1 : d.b < n
  p0 : 0 ≤ d.p
  p1 : d.p ≤ 1000000000
  c0 : 0 ≤ d.c
  c1 : d.c ≤ 1000000
noncomputable def mem (n : Nat) (f : Int → Int) : List Int := (List.range n).map fun i => f (i : Nat)
noncomputable def iL (xs : List Int) : List PyData := xs.map .int
inductive JS (n : Nat) (ds : List Dl) (f g : Int → Int) : Rho → Prop where
  | mk {a b c d e : Sl} (ha : frB (some a) = true) (hb : frB (some b) = true) (hc : frB (some c) = true) (hd : frB (some d) = true) (he : frB (some e) = true) :
    JS n ds f g [.val (.int (n : Nat)), .val (.list (ds.map Dl.D)), .own .free (tr (iL (mem n f))), .own .free (tr (iL (mem n g))), a, b, c, d, e]
end ST

end

section
set_option Elab.async false
set_option linter.all false
set_option maxRecDepth 100000
set_option maxHeartbeats 2000000
namespace SH
open PySem PySem.Spec PyProof.Rows L2 VL SM SP
theorem ne_self {d : PyData} {n : Nat} (h : Sh n d) (hn : n ≤ 64) : neD d d = some false := by
  show (if SeqAt.shaped d && SeqAt.shaped d then some (!PyData.eqv d d) else none) = _
  rw [h.ok hn, eqv_self (h.ok hn)]
  rfl
section
variable {z s : Int} {x y x' : S} {p p' : Past} {md : Md} {n N : Nat} {g : Bg} {rest : Rho} {t u : Tr} {a0 : Sl}
end
end SH

end

section
set_option Elab.async false
set_option linter.all false
set_option maxRecDepth 100000
set_option maxHeartbeats 2000000
namespace SH
open PySem PySem.Spec PyProof.Rows L2 VL SM SP
section
variable {z s : Int} {x y x' : S} {p p' : Past} {md : Md} {n N : Nat} {g : Bg} {rest : Rho} {t u : Tr} {a0 : Sl}
end
end SH

end

section
set_option Elab.async false
set_option linter.all false
set_option maxRecDepth 100000
set_option maxHeartbeats 2000000
namespace SH
open PySem PySem.Spec PyProof.Rows L2 VL SM SP
structure Bag where
  c : Int
  s : Int
noncomputable def bgT (b : Bag) : Tr := .lst [.dat (.int b.c), .dat (.int b.s)]
noncomputable def BgOk (b : Bag) : Prop := BagT (bgT b)
theorem bg_of {t : Tr} (h : BagT t) : ∃ b, t = bgT b ∧ BgOk b := by
  have h' := h
  obtain ⟨c0, s0, s1⟩ := h'
  exact ⟨⟨_, _⟩, rfl, h⟩
section
variable {b : Bag} {md : Md}
theorem cv_bg {i : Nat} {ρ : Rho} : VR.cvS i ρ (some (.own md (bgT b))) = some (.ok (.o i) ρ) := rfl
theorem e_tk {n : Int} (hb : BgOk b) (h0 : 0 < n) (hl : n ≤ 1000000000) : ∃ v b', BgOk b' ∧ 0 ≤ v ∧ v < n ∧ fTake [.own .pin (bgT b), .val (.int n)] = some (.ret (.dat (.int v)), [.own .pin (bgT b'), .val (.int n)]) := by
  obtain ⟨t, outs, e, v, b', h1, h2, h3, rfl, rfl⟩ := take_ok (m := .pin) rfl hb h0 (lt_lim (by omega) (by omega)) (Q := fun t outs => ∃ v b', BgOk b' ∧ 0 ≤ v ∧ v < n ∧ t = .dat (.int v) ∧ outs = [.own .pin (bgT b'), .val (.int n)]) (fun r t' r0 r1 ht => by
    obtain ⟨b', rfl, h'⟩ := bg_of ht
    exact ⟨r, b', h', r0, r1, rfl, rfl⟩)
  exact ⟨v, b', h1, h2, h3, e⟩
theorem e_sg (hb : BgOk b) : ∃ d b', BgOk b' ∧ IsSign d ∧ fSign [.own .pin (bgT b)] = some (.ret (.dat d), [.own .pin (bgT b')]) := by
  obtain ⟨t, outs, e, v, b', h1, h2, rfl, rfl⟩ := sign_ok (m := .pin) rfl hb (Q := fun t outs => ∃ d b', BgOk b' ∧ IsSign d ∧ t = .dat d ∧ outs = [.own .pin (bgT b')]) (fun d t' hd ht => by
    obtain ⟨b', rfl, h'⟩ := bg_of ht
    exact ⟨d, b', h', hd, rfl, rfl⟩)
  exact ⟨v, b', h1, h2, e⟩
end
section
variable {b : Bag} {md : Md}
noncomputable def five (v : Int) (x0 x1 x2 x3 x4 : PyData) : PyData := if v = 0 then x0 else if v = 1 then x1 else if v = 2 then x2 else if v = 3 then x3 else x4
theorem sub5 {x0 x1 x2 x3 x4 : PyData} {v : Int} (h0 : 0 ≤ v) (h5 : v < 5) : subD (.list [x0, x1, x2, x3, x4]) (.int v) = some (five v x0 x1 x2 x3 x4) := by
  have : v = 0 ∨ v = 1 ∨ v = 2 ∨ v = 3 ∨ v = 4 := by omega
  rcases this with rfl | rfl | rfl | rfl | rfl <;> rfl
end
end SH

end

section
set_option Elab.async false
set_option linter.all false
set_option maxRecDepth 100000
set_option maxHeartbeats 2000000
namespace SH
open PySem PySem.Spec PyProof.Rows L2 VL SM SP
section
variable {z s : Int} {x y x' : S} {p p' : Past} {md : Md} {n N : Nat} {g : Bg} {rest : Rho} {t u : Tr} {b : Bag}
end
end SH

end

section
set_option Elab.async false
set_option linter.all false
set_option maxRecDepth 100000
set_option maxHeartbeats 2000000
namespace SH
open PySem PySem.Spec PyProof.Rows L2 VL SM SP
theorem run_rt {n : Nat} {g : MS} {args ρ' : Rho} {t : Tr} (h : g (entry n args) = some (.rt t ρ')) : runF n g args = some (.ret t, ρ'.take args.length) := by
  unfold runF
  rw [h]
section
variable {z s : Int} {x y x' : S} {p p' : Past} {md : Md} {n N : Nat} {g : Bg} {rest : Rho} {t u : Tr} {b : Bag}
end
end SH

end

section
set_option Elab.async false
set_option linter.all false
set_option maxRecDepth 100000
set_option maxHeartbeats 2000000
namespace SH
open PySem PySem.Spec PyProof.Rows L2 VL SM SP
section
variable {z s : Int} {x y x' : S} {p p' : Past} {md : Md} {n N : Nat} {g : Bg} {rest : Rho} {t u : Tr} {b : Bag}
end
end SH

end

section
set_option Elab.async false
set_option linter.all false
set_option maxRecDepth 100000
set_option maxHeartbeats 2000000
namespace SH
open PySem PySem.Spec PyProof.Rows L2 VL SM SP
noncomputable def x0 : S := ⟨0, true, 0, [], [], [], []⟩
section
variable {z s : Int} {x y x' : S} {p p' : Past} {md : Md} {n N : Nat} {g : Bg} {rest : Rho} {t u : Tr} {b : Bag} {c : Cl} {d : PyData}
theorem e_bag {ns : List Int} {i : Nat} (hi : i ≤ 40) : ∃ b outs, BgOk b ∧ fBag [.val (scrD ns), .val (.int (i : Nat))] = some (.ret (bgT b), outs) := by
  obtain ⟨t, outs, e, h⟩ := bag_ok (ns := ns) hi (Q := fun t _ => BagT t) (fun t h => h)
  obtain ⟨b, rfl, hb⟩ := bg_of h
  exact ⟨b, outs, hb, e⟩
end
end SH

end

section
set_option Elab.async false
set_option linter.all false
set_option maxRecDepth 100000
namespace SP
open PySem PySem.Spec PyProof.Rows L2 VL SM
inductive JH {α : Type} (D : α → PyData) (ds : List α) (es : List α) : Rho → Prop where
  | mk {t : Tr} {a : Sl} (ht : BagT t) (ha : frB (some a) = true) : JH D ds es [.own .pin t, .val (.list (ds.map D)), .own .free (tr (es.map D)), a]
end SP

end

section
set_option Elab.async false
set_option linter.all false
set_option maxRecDepth 100000
set_option maxHeartbeats 2000000
namespace SH
open PySem PySem.Spec PyProof.Rows L2 VL SM SP
noncomputable def FrL (vs : List Sl) : Prop := ∀ v ∈ vs, frB (some v) = true
theorem FrL.nil : FrL [] := fun _ h => nomatch h
theorem FrL.cons {v : Sl} {vs : List Sl} (h : frB (some v) = true) (t : FrL vs) : FrL (v :: vs) := fun w hw => by
  rcases List.mem_cons.mp hw with rfl | hw
  · exact h
  · exact t w hw
theorem FrL.hd {v : Sl} {vs : List Sl} (h : FrL (v :: vs)) : frB (some v) = true := h v (List.mem_cons_self ..)
theorem FrL.tl {v : Sl} {vs : List Sl} (h : FrL (v :: vs)) : FrL vs := fun w hw => h w (List.mem_cons_of_mem _ hw)
theorem for_ok {fi : M (List PyData)} {g : MG} {b : MS} {ρ ρ1 : Rho} {ds : List PyData} {r : Option Out} (h : fi ρ = some (.ok ds ρ1)) (l : loopF g b ds ρ1 = r) : sFor fi g b ρ = r := by
  unfold sFor sE
  rw [h]
  exact l
theorem loop_cons {g : MG} {b : MS} {d : PyData} {ds : List PyData} {ρ ρ1 ρ2 : Rho} (h : g d ρ = some ρ1) (e : b ρ1 = some (.nx ρ2)) : loopF g b (d :: ds) ρ = loopF g b ds ρ2 := by
  show (match g d ρ with
    | none => none
    | some ρ1 => match b ρ1 with
      | some (.nx ρ2) => loopF g b ds ρ2
      | some (.ct ρ2) => loopF g b ds ρ2
      | some (.bk ρ2) => some (.nx ρ2)
      | o => o) = _
  rw [h]
  show (match b ρ1 with
      | some (.nx ρ2) => loopF g b ds ρ2
      | some (.ct ρ2) => loopF g b ds ρ2
      | some (.bk ρ2) => some (.nx ρ2)
      | o => o) = _
  rw [e]
theorem cell_range {ns : List Int} {c : Int} {m : Nat} {vs : List Sl} (em : (1 + (if c < ((ns.length : Nat) : Int) then c else ((ns.length : Nat) : Int)) : Int) = (m : Int)) (hm : m < 100000) : iRange1 (aCons (cBin addD (cD (.int 1)) (cCall min2D (aCons (cCall lenD (aCons (cVar 0) aNil)) (aCons (cD (.int c)) aNil)))) aNil) (.val (scrD ns) :: vs) = some (.ok ((List.range' 0 m).map fun k => .int (0 + (k : Nat))) (.val (scrD ns) :: vs)) := by
  have ls : lenD [scrD ns] = some (.int (ns.length : Nat)) := by
    unfold scrD
    show some (PyData.int (List.length _)) = _
    rw [List.length_map]
  rw [← List.range_eq_range']
  refine rng1 ?_ hm
  simp! only [setSl, List.replicate, pinS, Md.unb, VR.ap_fld1, VR.ap_pFld, VR.ap_pKey, VR.ap_keyT1, ls, min2, em]
theorem rng2 {f : M (List Rv)} {ρ ρ1 : Rho} {n : Nat} (h : f ρ = some (.ok [.d (.int (n : Nat))] ρ1)) (hn : n < 100000) : iRange1 f ρ = some (.ok ((List.range n).map fun k => .int (0 + (k : Nat))) ρ1) := by
  unfold iRange1 bnd
  rw [h]
  show (if -(2 ^ 62) ≤ ((n : Nat) : Int) ∧ ((n : Nat) : Int) < 2 ^ 62 then some (Er.ok (rangeD 0 ((n : Nat) : Int).toNat) _) else none) = _
  rw [if_pos (by omega)]
  rfl
end SH

end

section
set_option Elab.async false
set_option linter.all false
set_option maxRecDepth 100000
set_option maxHeartbeats 2000000
namespace SH
open PySem PySem.Spec PyProof.Rows L2 VL SM SP
theorem r_set {i : Nat} {f : M Rv} {ρ ρ1 : Rho} {d : PyData} (h : f ρ = some (.ok (.d d) ρ1)) (hs : frB (ρ1[i]?) = true) : sSet i f ρ = some (.nx (ρ1.set i (.val d))) := by
  simp! only [List.replicate, pinS, Md.unb, VR.ap_fld1, VR.ap_pFld, VR.ap_pKey, VR.ap_keyT1, h, setSl_f, hs]
theorem r_cmp {g : PyData → PyData → Option Bool} {f1 f2 : M Rv} {ρ ρ1 ρ2 : Rho} {d e : PyData} {r : Bool} (h1 : f1 ρ = some (.ok (.d d) ρ1)) (h2 : f2 ρ1 = some (.ok (.d e) ρ2)) (h : g d e = some r) : cCmp g f1 f2 ρ = some (.ok r ρ2) := by
  simp! only [setSl, List.replicate, pinS, Md.unb, VR.ap_fld1, VR.ap_pFld, VR.ap_pKey, VR.ap_keyT1, h1, h2, h]
theorem r_bin {g : PyData → PyData → Option PyData} {f1 f2 : M Rv} {ρ ρ1 ρ2 : Rho} {d e r : PyData} (h1 : f1 ρ = some (.ok (.d d) ρ1)) (h2 : f2 ρ1 = some (.ok (.d e) ρ2)) (h : g d e = some r) : cBin g f1 f2 ρ = some (.ok (.d r) ρ2) := by
  simp! only [setSl, List.replicate, pinS, Md.unb, VR.ap_fld1, VR.ap_pFld, VR.ap_pKey, VR.ap_keyT1, h1, h2, h]
theorem r_ifF {c : M Bool} {g h : MS} {ρ ρ1 : Rho} (e : c ρ = some (.ok false ρ1)) : sIf c g h ρ = h ρ1 := by
  simp! only [setSl, List.replicate, pinS, Md.unb, VR.ap_fld1, VR.ap_pFld, VR.ap_pKey, VR.ap_keyT1, e]
theorem r_ifT {c : M Bool} {g h : MS} {ρ ρ1 : Rho} (e : c ρ = some (.ok true ρ1)) : sIf c g h ρ = g ρ1 := by
  simp! only [setSl, List.replicate, pinS, Md.unb, VR.ap_fld1, VR.ap_pFld, VR.ap_pKey, VR.ap_keyT1, e]
theorem r_var {i : Nat} {ρ : Rho} {d : PyData} (h : ρ[i]? = some (.val d)) : cVar i ρ = some (.ok (.d d) ρ) := by
  rw [VR.ap_cVar, h]
  rfl
theorem r_seq {i : Nat} {ρ : Rho} {ds : List PyData} (h : ρ[i]? = some (.val (.list ds))) : iSeq (cVar i) ρ = some (.ok ds ρ) := by
  unfold iSeq bnd
  rw [r_var h]
  rfl
theorem r_seqF {f : M Rv} {ρ ρ1 : Rho} {ds : List PyData} (h : f ρ = some (.ok (.d (.list ds)) ρ1)) : iSeq f ρ = some (.ok ds ρ1) := by
  unfold iSeq bnd
  rw [h]
  rfl
theorem r_frz {f : M Tr} {ρ ρ1 : Rho} {t : Tr} {d : PyData} (h : f ρ = some (.ok t ρ1)) (td : t.toD = some d) : cFrz f ρ = some (.ok (.d d) ρ1) := by
  unfold cFrz bnd
  rw [h]
  show (match t.toD with
    | some d => some (Er.ok (Rv.d d) ρ1)
    | none => none) = _
  rw [td]
theorem r_comp {α : Type} {D : α → PyData} {ds : List α} {v : Nat} {fi : M (List PyData)} {te : M Rv} {ρ : Rho} {s : Sl} (f : α → PyData) (hi : fi ρ = some (.ok (ds.map D) ρ)) (hl : ds.length ≤ 16777216) (hv : ρ[v]? = some s) (hs : unown s = true)
    (he : ∀ d ∈ ds, te (ρ.set v (.val (D d))) = some (.ok (.d (f d)) (ρ.set v (.val (D d))))) : nComp fi [v] (gN v) tYesM te ρ = some (.ok (.lst ((ds.map f).map .dat)) ρ) := by
  have c := comp_eq (D := D) (ds := ds) (fi := fi) (v := v) (tt := tYesM) (te := te) (ρ := ρ) (s := s) (fun _ => true) f hi hl hv hs (fun _ _ => rfl) (fun d hd _ => he d hd)
  rw [List.filter_eq_self.mpr fun _ _ => rfl] at c
  exact c
theorem r_compD {α : Type} {D : α → PyData} {ds : List α} {v : Nat} {fi : M (List PyData)} {te : M Rv} {ρ : Rho} {s : Sl} (f : α → PyData) (hi : fi ρ = some (.ok (ds.map D) ρ)) (hl : ds.length ≤ 16777216) (hv : ρ[v]? = some s) (hs : unown s = true)
    (he : ∀ d ∈ ds, te (ρ.set v (.val (D d))) = some (.ok (.d (f d)) (ρ.set v (.val (D d))))) : cFrz (nComp fi [v] (gN v) tYesM te) ρ = some (.ok (.d (.list (ds.map f))) ρ) := r_frz (r_comp f hi hl hv hs he) toD_ds
theorem r_compT {α : Type} {D : α → PyData} {ds : List α} {v : Nat} {fi : M (List PyData)} {tt : M Bool} {te : M Rv} {ρ : Rho} {s : Sl} (p : α → Bool) (f : α → PyData) (hi : fi ρ = some (.ok (ds.map D) ρ)) (hl : ds.length ≤ 16777216) (hv : ρ[v]? = some s) (hs : unown s = true)
    (ht : ∀ d ∈ ds, tt (ρ.set v (.val (D d))) = some (.ok (p d) (ρ.set v (.val (D d))))) (he : ∀ d ∈ ds, p d = true → te (ρ.set v (.val (D d))) = some (.ok (.d (f d)) (ρ.set v (.val (D d))))) : cFrz (nComp fi [v] (gN v) tt te) ρ = some (.ok (.d (.list ((ds.filter p).map f))) ρ) := r_frz (comp_eq p f hi hl hv hs ht he) toD_ds
theorem r_asg {G : MG} {f : M Rv} {ρ ρ1 ρ2 : Rho} {d : PyData} (h : f ρ = some (.ok (.d d) ρ1)) (g : G d ρ1 = some ρ2) : sAsg G f ρ = some (.nx ρ2) := by
  simp! only [setSl, List.replicate, pinS, Md.unb, VR.ap_fld1, VR.ap_pFld, VR.ap_pKey, VR.ap_keyT1, h, g]
end SH

end

section
set_option Elab.async false
set_option linter.all false
set_option maxRecDepth 100000
namespace SP6
open PySem PySem.Spec PyProof.Rows L2 VL SM
noncomputable def wholeD : PyData → Bool
  | .int _ => true
  | _ => false
theorem whole_ok {d : PyData} (h : Sh 9 d) {Q : Tr → List Sl → Prop} (k : Q (.dat (.bool (wholeD d))) [.val d]) : okF (F_is_whole [.val d]) Q := by
  refine okF_run ?_
  simp only [entry, List.map_cons, List.map_nil, pinS_val]
  unfold g_is_whole
  refine okS_ret ?_
  cases d
  case dict kvs => have := h.c; simp [PyData.canLay0] at this
  all_goals simp; exact k
theorem lwhole_ok {d : PyData} (h : Sh 9 d) {Q : Tr → List Sl → Prop} (k : Q (.dat (.bool (wholeD d))) [.val d]) : okF (F__law_whole [.val d]) Q := whole_ok h k
theorem within_ok {d : PyData} {i j : Int} (h : Sh 9 d) {Q : Tr → List Sl → Prop} (k : Q (.dat (.bool (match d with | .int c => decide (i ≤ c) && decide (c ≤ j) | _ => false))) [.val d, .val (.int i), .val (.int j)]) : okF (F_is_within [.val d, .val (.int i), .val (.int j)]) Q := by
  refine okF_run ?_
  simp only [entry, List.map_cons, List.map_nil, pinS_val]
  unfold g_is_within
  refine okS_ret ?_
  simp [-okM_callN]
  refine okM_pure1 (whole_ok h ?_)
  cases d
  case int c =>
    simp [wholeD]
    by_cases h1 : i ≤ c
    · simp [h1]
      simpa [h1] using k
    · simp [h1]
      simpa [h1] using k
  case dict kvs => have := h.c; simp [PyData.canLay0] at this
  all_goals simp [wholeD]; exact k
noncomputable def inR (i j : Int) : PyData → Bool
  | .int c => decide (i ≤ c) && decide (c ≤ j)
  | _ => false
noncomputable def sideB : PyData → Bool
  | .str s => sBought == s || sSold == s
  | _ => false
noncomputable def cardD : PyData → Bool
  | .tuple [a, b, c, p, q, m] => inR 0 11 a && inR 0 11 b && !(PyData.eqv a b) && sideB c && inR 0 1000000000 p && inR 1 1000000 q && inR 0 1000000000 m
  | _ => false
theorem cardD_len {xs : List PyData} (h : xs.length ≠ 6) : cardD (.tuple xs) = false := by
  unfold cardD
  split
  · rename_i heq
    cases heq
    exact absurd rfl h
  · rfl
theorem within' {d : PyData} {i j : Int} (h : Sh 9 d) {Q : Tr → List Sl → Prop} (k : Q (.dat (.bool (inR i j d))) [.val d, .val (.int i), .val (.int j)]) : okF (F_is_within [.val d, .val (.int i), .val (.int j)]) Q := within_ok h (by cases d <;> exact k)
theorem is_card_ok {d : PyData} (h : Sh 9 d) {Q : Tr → List Sl → Prop} (k : Q (.dat (.bool (cardD d))) [.val d]) : okF (F_is_card [.val d]) Q := by
  refine okF_run ?_
  simp only [entry, List.map_cons, List.map_nil, pinS_val]
  unfold g_is_card
  rw [okS_seq]
  refine okS_if ?_
  cases d
  case dict kvs => have := h.c; simp [PyData.canLay0] at this
  case tuple xs =>
    by_cases hl : xs.length = 6
    · obtain ⟨a, b, c, p, q, m, rfl⟩ : ∃ a b c p q m, xs = [a, b, c, p, q, m] := by
        match xs, hl with
        | [a, b, c, p, q, m], _ => exact ⟨a, b, c, p, q, m, rfl⟩
      have sh : ∀ x ∈ [a, b, c, p, q, m], Sh 9 x := fun x hx => (h.of_tuple x hx).mono (by omega)
      have ha := sh a (by simp)
      have hb := sh b (by simp)
      have hc := sh c (by simp)
      have hp := sh p (by simp)
      have hq := sh q (by simp)
      have hm := sh m (by simp)
      simp [-okM_callN]
      rw [okS_seq]
      refine okS_asg ?_
      simp [List.replicate]
      rw [okS_seq]
      refine okS_forL ?_
      simp
      refine okS_loop_cons ?_
      simp
      unfold b_is_card_0
      refine okS_if ?_
      simp [-okM_callN]
      refine okM_pure3 (within' ha ?_)
      cases h1 : inR 0 11 a
      · simp
        refine okS_ret ?_
        simpa [cardD, h1] using k
      simp
      refine okS_loop_cons ?_
      simp
      refine okS_if ?_
      simp [-okM_callN]
      refine okM_pure3 (within' hb ?_)
      cases h2 : inR 0 11 b
      · simp
        refine okS_ret ?_
        simpa [cardD, h1, h2] using k
      simp
      rw [okS_loop_nil]
      simp
      rw [okS_seq]
      refine okS_if ?_
      simp [ha.ok, hb.ok]
      cases h3 : PyData.eqv a b
      · simp
        cases c
        case str z =>
          simp
          by_cases hz : sBought = z ∨ sSold = z
          · have hz' : (sBought == z || sSold == z) = true := by simpa using hz
            simp [hz]
            rw [okS_seq]
            refine okS_if ?_
            simp [-okM_callN]
            refine okM_pure3 (within' hp ?_)
            cases h4 : inR 0 1000000000 p
            · simp
              refine okS_ret ?_
              simpa [cardD, h1, h2, h3, h4, sideB, hz'] using k
            simp [-okM_callN]
            refine okM_pure3 (within' hq ?_)
            cases h5 : inR 1 1000000 q
            · simp
              refine okS_ret ?_
              simpa [cardD, h1, h2, h3, h4, h5, sideB, hz'] using k
            simp
            refine okS_ret ?_
            simp [-okM_callN]
            refine okM_pure3 (within' hm ?_)
            simpa [cardD, h1, h2, h3, h4, h5, sideB, hz'] using k
          · have hz' : (sBought == z || sSold == z) = false := by simpa using hz
            have hz2 : ¬ sBought = z ∧ ¬ sSold = z := by simpa using hz
            simp [hz2]
            refine okS_ret ?_
            simpa [cardD, h1, h2, h3, sideB, hz'] using k
        case dict kvs => have := hc.c; simp [PyData.canLay0] at this
        all_goals
          simp
          refine okS_ret ?_
          simpa [cardD, h1, h2, h3, sideB] using k
      · simp
        refine okS_ret ?_
        simpa [cardD, h1, h2, h3] using k
    · rw [cardD_len hl] at k
      have : ¬ ((xs.length : Int) = 6) := by omega
      simp [-okM_callN, this]; refine okS_ret ?_; simp; exact k
  all_goals simp [-okM_callN]; refine okS_ret ?_; simp; exact k
theorem lwhole' {d : PyData} (h : Sh 9 d) {Q : Tr → List Sl → Prop} (k : Q (.dat (.bool (wholeD d))) [.val d]) : okF (F__law_whole [.val d]) Q := lwhole_ok h k
theorem inR_whole {i j : Int} {d : PyData} (h : wholeD d = false) : inR i j d = false := by
  cases d <;> first | rfl | (cases h)
theorem cutA {a b c p q m : PyData} : cutL [a, b, c, p, q, m] none (some 2) = [a, b] := by rfl
theorem cutB {a b c p q m : PyData} : cutL [a, b, c, p, q, m] (some 3) none = [p, q, m] := by rfl
theorem sideL : Sh 2 (.list [.str sBought, .str sSold]) := Sh.list (n := 1) (xs := [.str sBought, .str sSold]) (fun x hx => by simp at hx; rcases hx with rfl | rfl <;> exact .str (by decide +kernel))
theorem law_card_ok {d : PyData} (h : Sh 9 d) {Q : Tr → List Sl → Prop} (k : Q (.dat (.bool (cardD d))) [.val d]) : okF (F__law_is_card [.val d]) Q := by
  refine okF_run ?_
  simp only [entry, List.map_cons, List.map_nil, pinS_val]
  unfold g__law_is_card
  rw [okS_seq]
  refine okS_if ?_
  cases d
  case dict kvs => have := h.c; simp [PyData.canLay0] at this
  case tuple xs =>
    by_cases hl : xs.length = 6
    · obtain ⟨a, b, c, p, q, m, rfl⟩ : ∃ a b c p q m, xs = [a, b, c, p, q, m] := by
        match xs, hl with
        | [a, b, c, p, q, m], _ => exact ⟨a, b, c, p, q, m, rfl⟩
      have sh : ∀ x ∈ [a, b, c, p, q, m], Sh 8 x := fun x hx => (h.of_tuple x hx).mono (by omega)
      have hc := (sh c (by simp)).mono (show 8 ≤ 9 by omega)
      simp [-okM_callN]
      rw [okS_seq]
      refine okS_if ?_
      simp [-okM_callN]
      refine okM_comp ?_
      simp [cutA, cutB, List.replicate, -okM_callN]
      rw [compGo_pure (fun x => !wholeD x) (fun x => x) _ _ (by simp) ?_]
      · simp
        have shf : Sh 9 (.list ([a, b, p, q, m].filter fun x => !wholeD x)) := .list fun x hx => sh x (by
          have := (List.mem_filter.mp hx).1
          simp at this ⊢
          rcases this with h | h | h | h | h <;> simp [h])
        have she : SeqAt.shaped (.list []) = true := (Sh.list (n := 0) (xs := []) (fun x hx => nomatch hx)).ok
        have nil : ∀ ys : List PyData, PyData.eqv (.list ys) (.list []) = ys.isEmpty := fun ys => by cases ys <;> simp [PyData.eqv, PyData.eqvAll]
        rw [nil]
        simp [shf.ok, she]
        by_cases hw : wholeD a = true ∧ wholeD b = true ∧ wholeD p = true ∧ wholeD q = true ∧ wholeD m = true
        · obtain ⟨w1, w2, w3, w4, w5⟩ := hw
          rw [if_pos ⟨w1, w2, w3, w4, w5⟩]
          cases a <;> cases w1
          cases b <;> cases w2
          cases p <;> cases w3
          cases q <;> cases w4
          cases m <;> cases w5
          rename_i a b p q m
          cases c
          case str z =>
            simp
            rw [okS_seq]
            refine okS_asg ?_
            simp
            rw [okS_seq]
            refine okS_if ?_
            simp [hc.ok, sideL.ok]
            by_cases h1 : 0 ≤ a ∧ a ≤ 11
            · by_cases h2 : 0 ≤ b ∧ b ≤ 11
              · by_cases h3 : a = b
                · simp [h1, h2, h3]
                  refine okS_ret ?_
                  simp
                  simpa [cardD, inR, h1, h2, h3] using k
                · have h3' : (a == b) = false := by simpa using h3
                  by_cases hz : sBought = z ∨ sSold = z
                  · have hz' : (sBought == z || sSold == z) = true := by simpa using hz
                    simp [h1, h2, h3, hz]
                    refine okS_ret ?_
                    by_cases h4 : 0 ≤ p ∧ p ≤ 1000000000
                    · by_cases h5 : 1 ≤ q ∧ q ≤ 1000000
                      · by_cases h6 : 0 ≤ m
                        · simp [h4, h5, h6]
                          simpa [cardD, inR, h1, h2, h3, h3', h4, h5, h6, sideB, hz'] using k
                        · simp [h4, h5, h6]
                          simpa [cardD, inR, h1, h2, h3, h3', h4, h5, h6, sideB, hz'] using k
                      · by_cases h7 : 1 ≤ q
                        · have h8 : ¬ q ≤ 1000000 := fun h => h5 ⟨h7, h⟩
                          simp [h4, h7, h8]
                          simpa [cardD, inR, h1, h2, h3, h4, h7, h8, sideB, hz'] using k
                        · simp [h4, h7]
                          simpa [cardD, inR, h1, h2, h3, h4, h7, sideB, hz'] using k
                    · by_cases h7 : 0 ≤ p
                      · have h8 : ¬ p ≤ 1000000000 := fun h => h4 ⟨h7, h⟩
                        simp [h7, h8]
                        simpa [cardD, inR, h1, h2, h3, h7, h8, sideB, hz'] using k
                      · simp [h7]
                        simpa [cardD, inR, h1, h2, h3, h7, sideB, hz'] using k
                  · have hz' : (sBought == z || sSold == z) = false := by simpa using hz
                    have hz2 : ¬ sBought = z ∧ ¬ sSold = z := by simpa using hz
                    simp [h1, h2, h3, hz2]
                    refine okS_ret ?_
                    simp
                    simpa [cardD, inR, h1, h2, h3, sideB, hz'] using k
              · by_cases h7 : 0 ≤ b
                · have h8 : ¬ b ≤ 11 := fun h => h2 ⟨h7, h⟩
                  simp [h1, h7, h8]
                  refine okS_ret ?_
                  simp
                  simpa [cardD, inR, h1, h7, h8] using k
                · simp [h1, h7]
                  refine okS_ret ?_
                  simp
                  simpa [cardD, inR, h1, h7] using k
            · by_cases h7 : 0 ≤ a
              · have h8 : ¬ a ≤ 11 := fun h => h1 ⟨h7, h⟩
                simp [h7, h8]
                refine okS_ret ?_
                simp
                simpa [cardD, inR, h7, h8] using k
              · simp [h7]
                refine okS_ret ?_
                simp
                simpa [cardD, inR, h7] using k
          case dict kvs => have := hc.c; simp [PyData.canLay0] at this
          all_goals
            simp
            refine okS_ret ?_
            simp
            simpa [cardD, sideB] using k
        · have hcd : cardD (.tuple [a, b, c, p, q, m]) = false := by
            have : wholeD a = false ∨ wholeD b = false ∨ wholeD p = false ∨ wholeD q = false ∨ wholeD m = false := by
              cases e1 : wholeD a <;> cases e2 : wholeD b <;> cases e3 : wholeD p <;> cases e4 : wholeD q <;> cases e5 : wholeD m <;> simp_all
            simp only [cardD]
            rcases this with h | h | h | h | h <;> simp [inR_whole h]
          rw [hcd] at k
          rw [if_neg hw]
          refine okS_ret ?_
          simp
          exact k
      · intro x hx
        have hx' : x ∈ [a, b, c, p, q, m] := by
          simp at hx ⊢
          rcases hx with h | h | h | h | h <;> simp [h]
        simp [-okM_callN]
        refine okM_pure1 (lwhole' ((sh x hx').mono (by omega)) ?_)
        cases wholeD x <;> simp
    · rw [cardD_len hl] at k
      have : ¬ ((xs.length : Int) = 6) := by omega
      simp [-okM_callN, this]; refine okS_ret ?_; simp; exact k
  all_goals simp [-okM_callN]; refine okS_ret ?_; simp; exact k
end SP6

end

section
set_option Elab.async false
set_option linter.all false
set_option maxRecDepth 100000
set_option maxHeartbeats 2000000
namespace K24
open PySem PySem.Spec PyProof.Rows L2 VL SM SN SP SH
noncomputable abbrev S (l : List Nat) : Str := ⟨l.toArray⟩
theorem S_tl (x : Str) : S x.cps.toList = x := SX.S_tl x
theorem S_len (a : List Nat) : (S a).length = a.length := SX.S_len a
structure Tx (l : List Nat) : Prop where
  c : ∀ c ∈ l, c < 128
  n : l.length ≤ 100000
theorem strOk_S {l : List Nat} (h : ∀ c ∈ l, c < 128) : PyData.canLay0 (.str (S l)) = true := by
  show ((S l).cps.all (· < 0x110000)) = true
  rw [← Array.all_toList]
  exact List.all_eq_true.mpr fun c hc => decide_eq_true (by have := h c hc; omega)
theorem Tx.lay {l : List Nat} (h : Tx l) : PyData.canLay0 (.str (S l)) = true := strOk_S h.c
theorem Tx.sh {l : List Nat} (h : Tx l) {n : Nat} : Sh n (.str (S l)) := .str h.lay
theorem Tx.sub {l m : List Nat} (h : Tx l) (hs : ∀ c ∈ m, c ∈ l) (hl : m.length ≤ l.length) : Tx m := ⟨fun c hc => h.c c (hs c hc), by have := h.n; omega⟩
theorem eqv_S {a b : List Nat} : PyData.eqv (.str (S a)) (.str (S b)) = decide (a = b) := by
  show (S a == S b) = _
  exact SX.S_beq_eq
theorem eq_S {a b : List Nat} (ha : Tx a) (hb : Tx b) : eqD (.str (S a)) (.str (S b)) = some (decide (a = b)) := by
  unfold eqD
  rw [ha.sh.ok (n := 1) (by decide), hb.sh.ok (n := 1) (by decide), eqv_S]
  rfl
theorem ne_S {a b : List Nat} (ha : Tx a) (hb : Tx b) : neD (.str (S a)) (.str (S b)) = some (!decide (a = b)) := by
  unfold neD
  rw [ha.sh.ok (n := 1) (by decide), hb.sh.ok (n := 1) (by decide), eqv_S]
  rfl
theorem len_S {a : List Nat} (h : a.length ≤ 100000) : lenD [.str (S a)] = some (.int (a.length : Nat)) := by
  show (if small (S a).length then some (PyData.int ((S a).length : Nat)) else none) = _
  rw [S_len, if_pos (small_of (by omega))]
theorem ix_S {a : List Nat} {i c : Nat} (h : a.length ≤ 100000) (e : a[i]? = some c) : subD (.str (S a)) (.int (i : Nat)) = some (.str (S [c])) := by
  have il : i < a.length := (List.getElem?_eq_some_iff.mp e).1
  show (if small (S a).length then (atI a (i : Int)).map (fun c => PyData.str ⟨#[c]⟩) else none) = _
  rw [if_pos (small_of (by rw [S_len]; omega)), atI_cast il, e]
  rfl
noncomputable def dig (c : Nat) : Bool := decide (48 ≤ c) && decide (c ≤ 57)
theorem in_S {a : List Nat} {c : Nat} : inD (.str (S [c])) (.str (S a)) = some (decide (c ∈ a)) := by
  show some (!(Builtin.Str.occurrences (S a) (S [c]) 0 (S a).length 1).isEmpty) = _
  rw [SX.in_one]
theorem notIn_S {a : List Nat} {c : Nat} : notInD (.str (S [c])) (.str (S a)) = some (!decide (c ∈ a)) := by
  unfold notInD
  rw [in_S]
  rfl
theorem dig_mem {c : Nat} : decide (c ∈ [48, 49, 50, 51, 52, 53, 54, 55, 56, 57]) = dig c := by
  unfold dig
  rw [Bool.eq_iff_iff, Bool.and_eq_true, decide_eq_true_eq, decide_eq_true_eq, decide_eq_true_eq]
  simp only [List.mem_cons, List.not_mem_nil, or_false]
  omega
theorem in_dig {c : Nat} : inD (.str (S [c])) (.str s_0123456789) = some (dig c) := by
  rw [← dig_mem]
  exact in_S
theorem notIn_dig {c : Nat} : notInD (.str (S [c])) (.str s_0123456789) = some (!dig c) := by
  rw [← dig_mem]
  exact notIn_S
noncomputable def numO (a : List Nat) (m : Nat) : Option Int :=
  if a.all dig && decide (1 ≤ a.length) && decide (a.length ≤ m) && !(decide (a.head? = some 48) && !decide (a = [48])) then some ((NumText.digitsVal a : Nat) : Int) else none
noncomputable def opD : Option Int → PyData
  | none => .none
  | some i => .int i
theorem int_S {a : List Nat} (h : a.all dig = true) (h1 : a ≠ []) (h2 : a.length ≤ 640) : intTD [.str (S a)] = some (.int ((NumText.digitsVal a : Nat) : Int)) := by
  show (if (S a).length ≤ 640 then (PySem.intText? (S a)).map PyData.int else none) = _
  rw [if_pos (by rw [S_len]; exact h2), SX.int_S h h1 (by omega)]
  rfl
theorem all_D {l : List Nat} {p : Nat → Bool} : allD [.list (l.map fun c => .bool (p c))] = some (.bool (l.all p)) := by
  have e : ∀ l : List Nat, boolsD (l.map fun c => .bool (p c)) = some (l.map p) := fun l => by
    induction l with
    | nil => rfl
    | cons c l ih =>
      rw [List.map_cons, List.map_cons]
      show (boolsD (l.map fun c => .bool (p c))).map (p c :: ·) = _
      rw [ih]
      rfl
  show (boolsD (l.map fun c => .bool (p c))).map (fun bs => PyData.bool (bs.all id)) = _
  rw [e]
  show some (PyData.bool ((l.map p).all id)) = _
  rw [List.all_map]
  rfl
theorem tx0 : Tx [48] := ⟨by decide, by decide⟩
theorem head_S {c : Nat} {cs : List Nat} (h : Tx (c :: cs)) : subD (.str (S (c :: cs))) (.int 0) = some (.str (S [c])) := ix_S (i := 0) h.n rfl
theorem tx1 {l : List Nat} (h : Tx l) {c : Nat} (hc : c ∈ l) : Tx [c] := ⟨fun x hx => by rw [List.mem_singleton.mp hx]; exact h.c c hc, by simp⟩
theorem gt_n {a b : Int} : gtD (.int a) (.int b) = some (decide (b < a)) := rfl
theorem lt_n {a b : Int} : ltD (.int a) (.int b) = some (decide (a < b)) := rfl
theorem e_number {a : List Nat} (h : Tx a) {m : Nat} (hm : m ≤ 640) : F_number_of [.val (.str (S a)), .val (.int (m : Nat))] = some (.ret (.dat (opD (numO a m))), [.val (.str (S a)), .val (.int (m : Nat))]) := by
  have ln := len_S h.n
  unfold F_number_of
  have run : ∀ d, g_number_of [.val (.str (S a)), .val (.int (m : Nat)), .no] = some (.rt (.dat d) [.val (.str (S a)), .val (.int (m : Nat)), .no]) → runF 3 g_number_of [.val (.str (S a)), .val (.int (m : Nat))] = some (.ret (.dat d), [.val (.str (S a)), .val (.int (m : Nat))]) := fun d e => (run_rt (n := 3) (ρ' := [.val (.str (S a)), .val (.int (m : Nat)), .no]) (g := g_number_of) (args := [.val (.str (S a)), .val (.int (m : Nat))]) e).trans rfl
  refine run _ ?_
  unfold g_number_of
  have c := r_compD (D := fun c : Nat => .str (S [c])) (ds := a) (v := 2) (s := .no) (fi := iSeqT (cVar 0)) (te := cOf (cCmp inD (cVar 2) (cD (.str s_0123456789)))) (ρ := [.val (.str (S a)), .val (.int (m : Nat)), .no]) (fun c => .bool (dig c)) (by
    unfold iSeqT bnd
    rw [r_var (d := .str (S a)) rfl]
    rfl) (by have := h.n; omega) rfl rfl (fun c hc => by
    have q := in_dig (c := c)
    show cOf _ [.val (.str (S a)), .val (.int (m : Nat)), .val (.str (S [c]))] = some (.ok _ [.val (.str (S a)), .val (.int (m : Nat)), .val (.str (S [c]))])
    generalize PyData.str (S a) = A
    generalize PyData.str (S [c]) = C at q ⊢
    generalize PyData.str s_0123456789 = D at q ⊢
    simp! only [setSl, List.replicate, pinS, Md.unb, VR.ap_fld1, VR.ap_pFld, VR.ap_pKey, VR.ap_keyT1, q])
  have al := all_D (l := a) (p := dig)
  by_cases h0 : a = []
  · subst h0
    have n0 : numO [] m = none := rfl
    rw [n0]
    have q1 : ltD (.int ((0 : Nat) : Int)) (.int 1) = some true := rfl
    have ln' : lenD [.str (S [])] = some (.int ((0 : Nat) : Int)) := ln
    generalize PyData.str (S []) = A at ln' ⊢
    simp! only [setSl, List.replicate, pinS, Md.unb, VR.ap_fld1, VR.ap_pFld, VR.ap_pKey, VR.ap_keyT1, ln', q1, opD]
  · obtain ⟨c0, cs, ea⟩ : ∃ c0 cs, a = c0 :: cs := by
      cases a with
      | nil => exact absurd rfl h0
      | cons c0 cs => exact ⟨c0, cs, rfl⟩
    have l1 : 1 ≤ a.length := by rw [ea]; simp
    have q1 : ltD (.int (a.length : Nat)) (.int 1) = some false := by rw [lt_n, decide_eq_false (by omega)]
    have q2 : gtD (.int (a.length : Nat)) (.int (m : Nat)) = some (decide (m < a.length)) := by
      rw [gt_n]
      congr 1
      rw [decide_eq_decide]
      omega
    by_cases hl : m < a.length
    · have n0 : numO a m = none := by
        unfold numO
        rw [decide_eq_false (show ¬ a.length ≤ m by omega)]
        simp
      rw [n0]
      rw [decide_eq_true hl] at q2
      generalize PyData.str (S a) = A at ln ⊢
      simp! only [setSl, List.replicate, pinS, Md.unb, VR.ap_fld1, VR.ap_pFld, VR.ap_pKey, VR.ap_keyT1, ln, q1, q2, opD]
    · rw [decide_eq_false hl] at q2
      have hd : subD (.str (S a)) (.int 0) = some (.str (S [c0])) := by
        rw [ea]
        exact head_S (by rw [← ea]; exact h)
      have q3 : eqD (.str (S [c0])) (.str s_0) = some (decide ([c0] = [48])) := eq_S (tx1 h (by rw [ea]; simp)) tx0
      have q4 : neD (.str (S a)) (.str s_0) = some (!decide (a = [48])) := ne_S h tx0
      have hh : a.head? = some c0 := by rw [ea]; rfl
      by_cases hz : c0 = 48 ∧ ¬ a = [48]
      · have n0 : numO a m = none := by
          unfold numO
          rw [hh, hz.1, decide_eq_false hz.2]
          simp
        rw [n0]
        rw [decide_eq_true (by rw [hz.1])] at q3
        rw [decide_eq_false hz.2] at q4
        generalize PyData.str (S a) = A at ln hd q4 ⊢
        generalize PyData.str (S [c0]) = B at hd q3 ⊢
        generalize PyData.str s_0 = Z at q3 q4 ⊢
        simp! only [setSl, List.replicate, pinS, Md.unb, VR.ap_fld1, VR.ap_pFld, VR.ap_pKey, VR.ap_keyT1, ln, q1, q2, hd, q3, q4, opD]
      · have nh : (decide (a.head? = some 48) && !decide (a = [48])) = false := by
          rw [hh]
          by_cases z : c0 = 48
          · have : a = [48] := by
              apply Classical.byContradiction
              exact fun y => hz ⟨z, y⟩
            simp [this]
          · simp [z]
        have cond : (cOr (cCmp ltD (cCall lenD (aCons (cVar 0) aNil)) (cD (.int 1))) (cOr (cCmp gtD (cCall lenD (aCons (cVar 0) aNil)) (cVar 1)) (cAnd (cCmp eqD (cBin subD (cVar 0) (cD (.int 0))) (cD (.str s_0))) (cCmp neD (cVar 0) (cD (.str s_0)))))) [.val (.str (S a)), .val (.int (m : Nat)), .no] = some (.ok false [.val (.str (S a)), .val (.int (m : Nat)), .no]) := by
          by_cases z : c0 = 48
          · have z2 : a = [48] := by
              apply Classical.byContradiction
              exact fun y => hz ⟨z, y⟩
            rw [decide_eq_true (by rw [z])] at q3
            rw [decide_eq_true z2] at q4
            generalize PyData.str (S a) = A at ln hd q4 ⊢
            generalize PyData.str (S [c0]) = B at hd q3 ⊢
            generalize PyData.str s_0 = Z at q3 q4 ⊢
            simp! only [setSl, List.replicate, pinS, Md.unb, VR.ap_fld1, VR.ap_pFld, VR.ap_pKey, VR.ap_keyT1, ln, q1, q2, hd, q3, q4]
          · rw [decide_eq_false (by intro y; exact z (List.cons.inj y).1)] at q3
            generalize PyData.str (S a) = A at ln hd q4 ⊢
            generalize PyData.str (S [c0]) = B at hd q3 ⊢
            generalize PyData.str s_0 = Z at q3 q4 ⊢
            simp! only [setSl, List.replicate, pinS, Md.unb, VR.ap_fld1, VR.ap_pFld, VR.ap_pKey, VR.ap_keyT1, ln, q1, q2, hd, q3]
        have nu : numO a m = if a.all dig then some ((NumText.digitsVal a : Nat) : Int) else none := by
          unfold numO
          rw [decide_eq_true l1, decide_eq_true (show a.length ≤ m by omega), nh]
          simp
        rw [nu]
        have it := int_S (a := a)
        generalize hA : PyData.str (S a) = A at cond c it ⊢
        generalize (cOr (cCmp ltD (cCall lenD (aCons (cVar 0) aNil)) (cD (.int 1))) (cOr (cCmp gtD (cCall lenD (aCons (cVar 0) aNil)) (cVar 1)) (cAnd (cCmp eqD (cBin subD (cVar 0) (cD (.int 0))) (cD (.str s_0))) (cCmp neD (cVar 0) (cD (.str s_0)))))) = cc at cond ⊢
        generalize cFrz (nComp (iSeqT (cVar 0)) [2] (gN 2) tYesM (cOf (cCmp inD (cVar 2) (cD (.str s_0123456789))))) = ff at c ⊢
        by_cases hd2 : a.all dig = true
        · rw [if_pos hd2]
          rw [hd2] at al
          have it := it hd2 h0 (by omega)
          generalize PyData.list (a.map fun c => .bool (dig c)) = L at c al
          simp! only [setSl, List.replicate, pinS, Md.unb, VR.ap_fld1, VR.ap_pFld, VR.ap_pKey, VR.ap_keyT1, cond, c, al, it, opD]
        · have hd2 : a.all dig = false := by simpa using hd2
          rw [if_neg (by rw [hd2]; decide)]
          rw [hd2] at al
          generalize PyData.list (a.map fun c => .bool (dig c)) = L at c al
          simp! only [setSl, List.replicate, pinS, Md.unb, VR.ap_fld1, VR.ap_pFld, VR.ap_pKey, VR.ap_keyT1, cond, c, al, opD]
theorem odd_nil {a : List Nat} : (a.filter fun c => !dig c).map (fun c => PyData.str (S [c])) = [] ↔ a.all dig = true := by
  rw [List.map_eq_nil_iff, List.filter_eq_nil_iff, List.all_eq_true]
  constructor
  · intro h c hc
    have := h c hc
    simpa using this
  · intro h c hc
    simp [h c hc]
theorem e_lnumber {a : List Nat} (h : Tx a) {m : Nat} (hm : m ≤ 640) : K24.F__law_number [.val (.str (S a)), .val (.int (m : Nat))] = some (.ret (.dat (opD (numO a m))), [.val (.str (S a)), .val (.int (m : Nat))]) := by
  have ln := len_S h.n
  have run : ∀ d s, K24.g__law_number [.val (.str (S a)), .val (.int (m : Nat)), .no, .no] = some (.rt (.dat d) [.val (.str (S a)), .val (.int (m : Nat)), s, .no]) → K24.F__law_number [.val (.str (S a)), .val (.int (m : Nat))] = some (.ret (.dat d), [.val (.str (S a)), .val (.int (m : Nat))]) := fun d s e => (run_rt (n := 4) (ρ' := [.val (.str (S a)), .val (.int (m : Nat)), s, .no]) (g := K24.g__law_number) (args := [.val (.str (S a)), .val (.int (m : Nat))]) e).trans rfl
  have c := r_compT (D := fun c : Nat => .str (S [c])) (ds := a) (v := 3) (s := .no) (fi := iSeqT (cVar 0)) (tt := cCmp notInD (cVar 3) (cD (.str s_0123456789))) (te := cVar 3) (ρ := [.val (.str (S a)), .val (.int (m : Nat)), .no, .no]) (fun c => !dig c) (fun c => .str (S [c])) (by
    unfold iSeqT bnd
    rw [r_var (d := .str (S a)) rfl]
    rfl) (by have := h.n; omega) rfl rfl (fun c hc => r_cmp (r_var rfl) rfl notIn_dig) (fun c hc _ => r_var rfl)
  generalize eO : (a.filter fun c => !dig c).map (fun c => PyData.str (S [c])) = O at c
  have hO := odd_nil (a := a)
  rw [eO] at hO
  have shO : Sh 1 (.list O) := .list (n := 0) fun x hx => by
    rw [← eO] at hx
    obtain ⟨c, hc, rfl⟩ := List.mem_map.mp hx
    exact (tx1 h (List.mem_filter.mp hc).1).sh
  have a1 : sSet 2 (cFrz (nComp (iSeqT (cVar 0)) [3] (gN 3) (cCmp notInD (cVar 3) (cD (.str s_0123456789))) (cVar 3))) [.val (.str (S a)), .val (.int (m : Nat)), .no, .no] = some (.nx [.val (.str (S a)), .val (.int (m : Nat)), .val (.list O), .no]) := r_set (ρ1 := [.val (.str (S a)), .val (.int (m : Nat)), .no, .no]) c rfl
  have q0 : neD (.list O) (.list []) = some (!decide (O = [])) := by
    rw [ne_nil shO (by decide)]
    cases O <;> rfl
  refine run _ (.val (.list O)) ?_
  unfold K24.g__law_number
  rw [seq_nx a1]
  have tn : Tr.toD (.lst []) = some (.list []) := rfl
  by_cases h0 : a = []
  · subst h0
    have n0 : numO [] m = none := rfl
    rw [n0]
    have q1 : ltD (.int ((0 : Nat) : Int)) (.int 1) = some true := rfl
    have ln' : lenD [.str (S [])] = some (.int ((0 : Nat) : Int)) := ln
    generalize PyData.str (S []) = A at ln' ⊢
    simp! only [setSl, List.replicate, pinS, Md.unb, VR.ap_fld1, VR.ap_pFld, VR.ap_pKey, VR.ap_keyT1, ln', q1, opD]
  · obtain ⟨c0, cs, ea⟩ : ∃ c0 cs, a = c0 :: cs := by
      cases a with
      | nil => exact absurd rfl h0
      | cons c0 cs => exact ⟨c0, cs, rfl⟩
    have l1 : 1 ≤ a.length := by rw [ea]; simp
    have q1 : ltD (.int (a.length : Nat)) (.int 1) = some false := by rw [lt_n, decide_eq_false (by omega)]
    have q2 : gtD (.int (a.length : Nat)) (.int (m : Nat)) = some (decide (m < a.length)) := by
      rw [gt_n]
      congr 1
      rw [decide_eq_decide]
      omega
    by_cases hl : m < a.length
    · have n0 : numO a m = none := by
        unfold numO
        rw [decide_eq_false (show ¬ a.length ≤ m by omega)]
        simp
      rw [n0]
      rw [decide_eq_true hl] at q2
      generalize PyData.str (S a) = A at ln ⊢
      simp! only [setSl, List.replicate, pinS, Md.unb, VR.ap_fld1, VR.ap_pFld, VR.ap_pKey, VR.ap_keyT1, ln, q1, q2, opD]
    · rw [decide_eq_false hl] at q2
      have hd : subD (.str (S a)) (.int 0) = some (.str (S [c0])) := by
        rw [ea]
        exact head_S (by rw [← ea]; exact h)
      have q3 : eqD (.str (S [c0])) (.str s_0) = some (decide ([c0] = [48])) := eq_S (tx1 h (by rw [ea]; simp)) tx0
      have q4 : neD (.str (S a)) (.str s_0) = some (!decide (a = [48])) := ne_S h tx0
      have hh : a.head? = some c0 := by rw [ea]; rfl
      by_cases hd2 : a.all dig = true
      · have q5 := q0
        rw [decide_eq_true (hO.mpr hd2)] at q5
        have it := int_S hd2 h0 (by omega)
        by_cases hz : c0 = 48 ∧ ¬ a = [48]
        · have n0 : numO a m = none := by
            unfold numO
            rw [hh, hz.1, decide_eq_false hz.2]
            simp
          rw [n0]
          rw [decide_eq_true (by rw [hz.1])] at q3
          rw [decide_eq_false hz.2] at q4
          generalize PyData.str (S a) = A at ln hd q4 ⊢
          generalize PyData.str (S [c0]) = B at hd q3 ⊢
          generalize PyData.str s_0 = Z at q3 q4 ⊢
          simp! only [setSl, List.replicate, pinS, Md.unb, VR.ap_fld1, VR.ap_pFld, VR.ap_pKey, VR.ap_keyT1, ln, q1, q2, hd, q3, q4, tn, q5, opD]
        · have n1 : numO a m = some ((NumText.digitsVal a : Nat) : Int) := by
            unfold numO
            rw [decide_eq_true l1, decide_eq_true (show a.length ≤ m by omega), hd2, hh]
            by_cases z : c0 = 48
            · have : a = [48] := by
                apply Classical.byContradiction
                exact fun y => hz ⟨z, y⟩
              simp [this]
            · simp [z]
          rw [n1]
          by_cases z : c0 = 48
          · have z2 : a = [48] := by
              apply Classical.byContradiction
              exact fun y => hz ⟨z, y⟩
            rw [decide_eq_true (by rw [z])] at q3
            rw [decide_eq_true z2] at q4
            generalize PyData.str (S a) = A at ln hd q4 it ⊢
            generalize PyData.str (S [c0]) = B at hd q3 ⊢
            generalize PyData.str s_0 = Z at q3 q4 ⊢
            simp! only [setSl, List.replicate, pinS, Md.unb, VR.ap_fld1, VR.ap_pFld, VR.ap_pKey, VR.ap_keyT1, ln, q1, q2, hd, q3, q4, tn, q5, it, opD]
          · rw [decide_eq_false (by intro y; exact z (List.cons.inj y).1)] at q3
            generalize PyData.str (S a) = A at ln hd q4 it ⊢
            generalize PyData.str (S [c0]) = B at hd q3 ⊢
            generalize PyData.str s_0 = Z at q3 q4 ⊢
            simp! only [setSl, List.replicate, pinS, Md.unb, VR.ap_fld1, VR.ap_pFld, VR.ap_pKey, VR.ap_keyT1, ln, q1, q2, hd, q3, tn, q5, it, opD]
      · have q5 := q0
        rw [decide_eq_false fun z => hd2 (hO.mp z)] at q5
        have hd3 : a.all dig = false := by simpa using hd2
        have n0 : numO a m = none := by
          unfold numO
          rw [hd3]
          rfl
        rw [n0]
        generalize PyData.str (S a) = A at ln ⊢
        simp! only [setSl, List.replicate, pinS, Md.unb, VR.ap_fld1, VR.ap_pFld, VR.ap_pKey, VR.ap_keyT1, ln, q1, q2, tn, q5, opD]
end K24

end

section
set_option Elab.async false
set_option linter.all false
set_option maxRecDepth 100000
set_option maxHeartbeats 4000000
namespace K24
open PySem PySem.Spec PyProof.Rows L2 VL SM SN SP SH
theorem numO1 {c : Nat} : numO [c] 1 = if dig c then some (((c - 48 : Nat) : Nat) : Int) else none := by
  unfold numO
  have v : NumText.digitsVal [c] = c - 48 := by
    show 0 * 10 + (c - 48) = _
    omega
  rw [v]
  have e : ([c] : List Nat).all dig = dig c := by simp
  rw [e]
  have z : (decide (([c] : List Nat).head? = some 48) && !decide ([c] = [48])) = false := by
    by_cases h : c = 48 <;> simp [h]
  rw [z]
  simp
noncomputable def prt (c : Nat) : Str := if c = 98 then sIn else if c = 115 then sOut else if c = 99 then sChin else if c = 119 then sBrow else s_x
theorem prt_in (c : Nat) : prt c ∈ [sIn, sOut, sChin, sBrow, s_x] := by
  unfold prt
  split
  · simp
  · split
    · simp
    · split
      · simp
      · split <;> simp
theorem parts_get {c : Nat} : (tb_PARTS.lookup (S [c])).getD (.str s_x) = .str (prt c) := by
  have e : ∀ k : Nat, (S [c] == (⟨#[k]⟩ : Str)) = decide (c = k) := fun k => by
    have := SX.S_beq_eq (a := [c]) (b := [k])
    rw [show (⟨#[k]⟩ : Str) = SX.S [k] from rfl]
    rw [this]
    congr 1
    simp
  unfold tb_PARTS
  unfold s_b s_s s_c s_w
  simp only [List.lookup, e]
  unfold prt
  by_cases h1 : c = 98
  · simp [h1]
  · by_cases h2 : c = 115
    · simp [h2]
    · by_cases h3 : c = 99
      · simp [h3]
      · by_cases h4 : c = 119 <;> simp [h1, h2, h3, h4]
noncomputable def nums : List (Option Int) := [none, some 0, some 1, some 2, some 3, some 4, some 5, some 6, some 7, some 8, some 9]
noncomputable def nB (o : Option Int) : Bool := match o with
  | some i => decide (1 ≤ i)
  | none => false
noncomputable def plB (p : Str) : Bool := p == sChin || p == sBrow
theorem sh_chk : (nums.all fun o => [sIn, sOut, sChin, sBrow, s_x].all fun p => (match SM.F_is_showing [.val (.tuple [opD o, .str p])] with
  | some (.ret (.dat (.bool b)), _) => b == (nB o && plB p)
  | _ => false)) = true := by decide +kernel
theorem is_sh {o : Option Int} {p : Str} (ho : o ∈ nums) (hp : p ∈ [sIn, sOut, sChin, sBrow, s_x]) : ∃ outs, SM.F_is_showing [.val (.tuple [opD o, .str p])] = some (.ret (.dat (.bool (nB o && plB p))), outs) := by
  have h := List.all_eq_true.mp (List.all_eq_true.mp sh_chk o ho) p hp
  split at h
  · rename_i b outs e
    rw [e, eq_of_beq h]
    exact ⟨outs, rfl⟩
  · cases h
theorem num_in {c : Nat} : numO [c] 1 ∈ nums := by
  rw [numO1]
  unfold dig
  by_cases h : 48 ≤ c ∧ c ≤ 57
  · obtain ⟨h1, h2⟩ := h
    have : c = 48 ∨ c = 49 ∨ c = 50 ∨ c = 51 ∨ c = 52 ∨ c = 53 ∨ c = 54 ∨ c = 55 ∨ c = 56 ∨ c = 57 := by omega
    rcases this with rfl | rfl | rfl | rfl | rfl | rfl | rfl | rfl | rfl | rfl <;> decide
  · have : (decide (48 ≤ c) && decide (c ≤ 57)) = false := by simpa using h
    rw [this]
    simp [nums]
noncomputable def fgB (c : Nat) : Bool := decide (49 ≤ c) && decide (c ≤ 57)
noncomputable def plcB (c : Nat) : Bool := decide (c = 99) || decide (c = 119)
noncomputable def plcS (c : Nat) : Str := if c = 119 then sBrow else sChin
theorem nB_c {c : Nat} : nB (numO [c] 1) = fgB c := by
  rw [numO1]
  unfold dig fgB
  by_cases h : 48 ≤ c ∧ c ≤ 57
  · rw [show (decide (48 ≤ c) && decide (c ≤ 57)) = true by simpa using h]
    show decide ((1 : Int) ≤ ((c - 48 : Nat) : Int)) = _
    rw [decide_eq_true h.2, Bool.and_true, decide_eq_decide]
    omega
  · rw [show (decide (48 ≤ c) && decide (c ≤ 57)) = false by simpa using h]
    show false = _
    by_cases h2 : 49 ≤ c
    · have : ¬ c ≤ 57 := fun z => h ⟨by omega, z⟩
      simp [this]
    · simp [h2]
theorem pl_ne : (sIn == sChin) = false ∧ (sIn == sBrow) = false ∧ (sOut == sChin) = false ∧ (sOut == sBrow) = false ∧ (s_x == sChin) = false ∧ (s_x == sBrow) = false ∧ (sBrow == sChin) = false := by decide +kernel
theorem plB_c {c : Nat} : plB (prt c) = plcB c := by
  obtain ⟨n1, n2, n3, n4, n5, n6, n7⟩ := pl_ne
  unfold plB prt plcB
  by_cases h1 : c = 98
  · simp [h1, n1, n2]
  · by_cases h2 : c = 115
    · simp [h2, n3, n4]
    · by_cases h3 : c = 99
      · simp [h3]
      · by_cases h4 : c = 119 <;> simp [h1, h2, h3, h4, n5, n6]
theorem prt_plc {c : Nat} (h : plcB c = true) : prt c = plcS c := by
  unfold plcB at h
  have : c = 99 ∨ c = 119 := by simpa using h
  rcases this with rfl | rfl <;> rfl
noncomputable def shT (c0 c1 : Nat) : PyData := if fgB c0 && plcB c1 then .tuple [.int ((c0 - 48 : Nat) : Int), .str (plcS c1)] else .none
noncomputable def shOf : List Nat → PyData
  | [c0, c1] => shT c0 c1
  | _ => .none
theorem num_fg {c : Nat} (h : fgB c = true) : numO [c] 1 = some ((c - 48 : Nat) : Int) := by
  rw [numO1]
  have : dig c = true := by
    unfold fgB at h
    unfold dig
    simp only [Bool.and_eq_true, decide_eq_true_eq] at h ⊢
    omega
  rw [this]
  rfl
theorem e_showing_in {a : List Nat} (h : Tx a) : F_showing_in [.val (.str (S a))] = some (.ret (.dat (shOf a)), [.val (.str (S a))]) := by
  have ln := len_S h.n
  have run : ∀ d s, g_showing_in [.val (.str (S a)), .no] = some (.rt (.dat d) [.val (.str (S a)), s]) → F_showing_in [.val (.str (S a))] = some (.ret (.dat d), [.val (.str (S a))]) := fun d s e => (run_rt (n := 2) (ρ' := [.val (.str (S a)), s]) (g := g_showing_in) (args := [.val (.str (S a))]) e).trans rfl
  by_cases h2 : a.length = 2
  · obtain ⟨c0, c1, rfl⟩ : ∃ c0 c1, a = [c0, c1] := by
      match a, h2 with
      | [c0, c1], _ => exact ⟨c0, c1, rfl⟩
    have ln : lenD [.str (S [c0, c1])] = some (.int 2) := ln
    have q1 : neD (.int 2) (.int 2) = some false := rfl
    have i0 : subD (.str (S [c0, c1])) (.int 0) = some (.str (S [c0])) := ix_S (i := 0) h.n rfl
    have i1 : subD (.str (S [c0, c1])) (.int 1) = some (.str (S [c1])) := ix_S (i := 1) h.n rfl
    have f := e_number (tx1 h (c := c0) (by simp)) (m := 1) (by decide)
    have f : F_number_of [.val (.str (S [c0])), .val (.int 1)] = some (.ret (.dat (opD (numO [c0] 1))), [.val (.str (S [c0])), .val (.int 1)]) := f
    have tb : ∀ ρ : Rho, tabG tb_PARTS [.d (.str (S [c1])), .d (.str s_x)] ρ = some (.ok (.d (.str (prt c1))) ρ) := fun ρ => by
      show some (Er.ok (Rv.d ((tb_PARTS.lookup (S [c1])).getD (.str s_x))) ρ) = _
      rw [parts_get]
    obtain ⟨outs, g⟩ := is_sh (num_in (c := c0)) (prt_in c1)
    rw [nB_c, plB_c] at g
    have a1 : sSet 1 (cTup (aCons (cFrz (nCall [] 2 F_number_of (aCons (cBin subD (cVar 0) (cD (.int 0))) (aCons (cD (.int 1)) aNil)))) (aCons (cTabG tb_PARTS (aCons (cBin subD (cVar 0) (cD (.int 1))) (aCons (cD (.str s_x)) aNil))) aNil))) [.val (.str (S [c0, c1])), .no] = some (.nx [.val (.str (S [c0, c1])), .val (.tuple [opD (numO [c0] 1), .str (prt c1)])]) := by
      have ct : ∀ ρ : Rho, ρ = [.val (.str (S [c0, c1])), .no] → cTabG tb_PARTS (aCons (cBin subD (cVar 0) (cD (.int 1))) (aCons (cD (.str s_x)) aNil)) ρ = some (.ok (.d (.str (prt c1))) ρ) := fun ρ e => by
        subst e
        unfold cTabG
        have ar : aCons (cBin subD (cVar 0) (cD (.int 1))) (aCons (cD (.str s_x)) aNil) [.val (.str (S [c0, c1])), .no] = some (.ok [.d (.str (S [c1])), .d (.str s_x)] [.val (.str (S [c0, c1])), .no]) := by
          generalize PyData.str (S [c0, c1]) = A at i1 ⊢
          generalize PyData.str (S [c1]) = B at i1 ⊢
          simp! only [setSl, List.replicate, pinS, Md.unb, VR.ap_fld1, VR.ap_pFld, VR.ap_pKey, VR.ap_keyT1, i1]
        unfold bnd
        rw [ar]
        exact tb _
      have ct := ct _ rfl
      generalize PyData.str (S [c0, c1]) = A at i0 ct ⊢
      generalize cTabG tb_PARTS (aCons (cBin subD (cVar 0) (cD (.int 1))) (aCons (cD (.str s_x)) aNil)) = ff at ct ⊢
      generalize opD (numO [c0] 1) = o at f ⊢
      simp! only [setSl, List.replicate, pinS, Md.unb, VR.ap_fld1, VR.ap_pFld, VR.ap_pKey, VR.ap_keyT1, i0, f, ct]
    refine run _ (.val (.tuple [opD (numO [c0] 1), .str (prt c1)])) ?_
    unfold g_showing_in
    have k1 : sIf (cCmp neD (cCall lenD (aCons (cVar 0) aNil)) (cD (.int 2))) (sRet (nDat (cD .none))) sNil [.val (.str (S [c0, c1])), .no] = some (.nx [.val (.str (S [c0, c1])), .no]) := by
      generalize PyData.str (S [c0, c1]) = A at ln ⊢
      simp! only [setSl, List.replicate, pinS, Md.unb, VR.ap_fld1, VR.ap_pFld, VR.ap_pKey, VR.ap_keyT1, ln, q1]
    rw [seq_nx k1, seq_nx a1]
    show _ = some (Out.rt (Tr.dat (shT c0 c1)) _)
    unfold shT
    cases hb : (fgB c0 && plcB c1) with
    | false =>
      rw [hb] at g
      generalize PyData.tuple [opD (numO [c0] 1), .str (prt c1)] = T at g ⊢
      generalize PyData.str (S [c0, c1]) = A
      simp! only [setSl, List.replicate, pinS, Md.unb, VR.ap_fld1, VR.ap_pFld, VR.ap_pKey, VR.ap_keyT1, g]
    | true =>
      rw [hb] at g
      rw [Bool.and_eq_true] at hb
      have et : PyData.tuple [opD (numO [c0] 1), .str (prt c1)] = .tuple [.int ((c0 - 48 : Nat) : Int), .str (plcS c1)] := by rw [num_fg hb.1, prt_plc hb.2]; rfl
      rw [if_pos rfl, ← et]
      generalize PyData.tuple [opD (numO [c0] 1), .str (prt c1)] = T at g ⊢
      generalize PyData.str (S [c0, c1]) = A
      simp! only [setSl, List.replicate, pinS, Md.unb, VR.ap_fld1, VR.ap_pFld, VR.ap_pKey, VR.ap_keyT1, g]
  · have e0 : shOf a = .none := by
      unfold shOf
      split
      · exact absurd rfl h2
      · rfl
    have q1 : neD (.int (a.length : Nat)) (.int 2) = some true := by
      show some (!decide ((a.length : Int) = 2)) = _
      rw [decide_eq_false (by omega)]
      rfl
    rw [e0]
    refine run _ .no ?_
    unfold g_showing_in
    generalize PyData.str (S a) = A at ln ⊢
    simp! only [setSl, List.replicate, pinS, Md.unb, VR.ap_fld1, VR.ap_pFld, VR.ap_pKey, VR.ap_keyT1, ln, q1]
noncomputable def plm (c : Nat) : Str := if c = 115 then sOut else sIn
noncomputable def pmB (c : Nat) : Bool := decide (c = 98) || decide (c = 115)
noncomputable def pmS (p : Str) : Bool := p == sIn || p == sOut
theorem pm_ne : (sOut == sIn) = false ∧ (sChin == sIn) = false ∧ (sChin == sOut) = false ∧ (sBrow == sIn) = false ∧ (sBrow == sOut) = false ∧ (s_x == sIn) = false ∧ (s_x == sOut) = false := by decide +kernel
theorem pmS_c {c : Nat} : pmS (prt c) = pmB c := by
  obtain ⟨n1, n2, n3, n4, n5, n6, n7⟩ := pm_ne
  unfold pmS prt pmB
  by_cases h1 : c = 98
  · simp [h1]
  · by_cases h2 : c = 115
    · simp [h2]
    · by_cases h3 : c = 99
      · simp [h3, n2, n3]
      · by_cases h4 : c = 119 <;> simp [h1, h2, h3, h4, n4, n5, n6, n7]
theorem prt_plm {c : Nat} (h : pmB c = true) : prt c = plm c := by
  unfold pmB at h
  have : c = 98 ∨ c = 115 := by simpa using h
  rcases this with rfl | rfl <;> rfl
noncomputable def isN (o : Option Int) : Bool := o.isSome
noncomputable def fgs : List Int := [1, 2, 3, 4, 5, 6, 7, 8, 9]
noncomputable def chkSg (p : Str) : Bool := nums.all fun o => fgs.all fun f => [sChin, sBrow].all fun l => (match SM.F_is_sign [.val (.tuple [.str p, opD o, .int f, .str l])] with
  | some (.ret (.dat (.bool b)), _) => b == (pmS p && isN o)
  | _ => false)
theorem sg_1 : chkSg sIn = true := by decide +kernel
theorem sg_2 : chkSg sOut = true := by decide +kernel
theorem sg_3 : chkSg sChin = true := by decide +kernel
theorem sg_4 : chkSg sBrow = true := by decide +kernel
theorem sg_5 : chkSg s_x = true := by decide +kernel
theorem is_sg {p : Str} {o : Option Int} {f : Int} {l : Str} (hp : p ∈ [sIn, sOut, sChin, sBrow, s_x]) (ho : o ∈ nums) (hf : f ∈ fgs) (hl : l ∈ [sChin, sBrow]) : ∃ outs, SM.F_is_sign [.val (.tuple [.str p, opD o, .int f, .str l])] = some (.ret (.dat (.bool (pmS p && isN o))), outs) := by
  have h : chkSg p = true := by
    simp only [List.mem_cons, List.not_mem_nil, or_false] at hp
    rcases hp with rfl | rfl | rfl | rfl | rfl
    · exact sg_1
    · exact sg_2
    · exact sg_3
    · exact sg_4
    · exact sg_5
  have h := List.all_eq_true.mp (List.all_eq_true.mp (List.all_eq_true.mp h o ho) f hf) l hl
  split at h
  · rename_i b outs e
    rw [e, eq_of_beq h]
    exact ⟨outs, rfl⟩
  · cases h
theorem isN_c {c : Nat} : isN (numO [c] 1) = dig c := by
  rw [numO1]
  cases dig c <;> rfl
theorem num_dig {c : Nat} (h : dig c = true) : numO [c] 1 = some ((c - 48 : Nat) : Int) := by
  rw [numO1, h]
  rfl
noncomputable def sgT (p q x f l : Nat) : PyData := if pmB p && dig q && decide (x = 120) && (fgB f && plcB l) then .tuple [.str (plm p), .int ((q - 48 : Nat) : Int), .int ((f - 48 : Nat) : Int), .str (plcS l)] else .none
noncomputable def sgOf : List Nat → PyData
  | [p, q, x, f, l] => sgT p q x f l
  | _ => .none
theorem cut_S {a : List Nat} {n : Nat} (h : a.length ≤ 100000) : cutD (.str (S a)) (some (n : Nat)) none = some (.str (S (a.drop n))) := by
  show (if small (S a).length then some (PyData.str (cutS (S a) (some (n : Nat)) none)) else none) = _
  rw [if_pos (small_of (by rw [S_len]; omega))]
  congr 2
  unfold cutS
  rw [S_len, HT.sIx_nat]
  show S ((a.drop (min n a.length)).take (HT.sIx a.length a.length none - min n a.length)) = S (a.drop n)
  congr 1
  have : HT.sIx a.length a.length none = a.length := rfl
  rw [this]
  by_cases hn : n ≤ a.length
  · rw [Nat.min_eq_left hn]
    exact List.take_of_length_le (by rw [List.length_drop]; omega)
  · rw [Nat.min_eq_right (by omega), List.drop_of_length_le (Nat.le_refl _), List.drop_of_length_le (by omega), List.take_nil]
theorem fg_in {c : Nat} (h : fgB c = true) : ((c - 48 : Nat) : Int) ∈ fgs := by
  unfold fgB at h
  simp only [Bool.and_eq_true, decide_eq_true_eq] at h
  have : c = 49 ∨ c = 50 ∨ c = 51 ∨ c = 52 ∨ c = 53 ∨ c = 54 ∨ c = 55 ∨ c = 56 ∨ c = 57 := by omega
  rcases this with rfl | rfl | rfl | rfl | rfl | rfl | rfl | rfl | rfl <;> decide
theorem pl_in {c : Nat} : plcS c ∈ [sChin, sBrow] := by
  unfold plcS
  split <;> simp
theorem tx120 : Tx [120] := ⟨by decide, by decide⟩
theorem isn_none : isND .none .none = some true := rfl
theorem isn_tup {xs : List PyData} : isND (.tuple xs) .none = some false := rfl
theorem e_sign_in {a : List Nat} (h : Tx a) : F_sign_in [.val (.str (S a))] = some (.ret (.dat (sgOf a)), [.val (.str (S a))]) := by
  have ln := len_S h.n
  have run : ∀ d s, g_sign_in [.val (.str (S a)), .no] = some (.rt (.dat d) [.val (.str (S a)), s]) → F_sign_in [.val (.str (S a))] = some (.ret (.dat d), [.val (.str (S a))]) := fun d s e => (run_rt (n := 2) (ρ' := [.val (.str (S a)), s]) (g := g_sign_in) (args := [.val (.str (S a))]) e).trans rfl
  by_cases h5 : a.length = 5
  · obtain ⟨p, q, x, f, l, rfl⟩ : ∃ p q x f l, a = [p, q, x, f, l] := by
      match a, h5 with
      | [p, q, x, f, l], _ => exact ⟨p, q, x, f, l, rfl⟩
    have ln : lenD [.str (S [p, q, x, f, l])] = some (.int 5) := ln
    have q1 : neD (.int 5) (.int 5) = some false := rfl
    have i0 : subD (.str (S [p, q, x, f, l])) (.int 0) = some (.str (S [p])) := ix_S (i := 0) h.n rfl
    have i1 : subD (.str (S [p, q, x, f, l])) (.int 1) = some (.str (S [q])) := ix_S (i := 1) h.n rfl
    have i2 : subD (.str (S [p, q, x, f, l])) (.int 2) = some (.str (S [x])) := ix_S (i := 2) h.n rfl
    have q2 : neD (.str (S [x])) (.str s_x78) = some (!decide ([x] = [120])) := ne_S (tx1 h (by simp)) tx120
    have e2 : ([x] = [120]) = (x = 120) := by simp
    have c3 : cutD (.str (S [p, q, x, f, l])) (some 3) none = some (.str (S [f, l])) := cut_S (n := 3) h.n
    have txl : Tx [f, l] := h.sub (fun c hc => by simp at hc ⊢; rcases hc with rfl | rfl <;> simp) (by simp)
    have fs := e_showing_in txl
    have fs : F_showing_in [.val (.str (S [f, l]))] = some (.ret (.dat (shT f l)), [.val (.str (S [f, l]))]) := fs
    by_cases hx : x = 120
    · rw [decide_eq_true (by rw [hx])] at q2
      cases hb : (fgB f && plcB l) with
      | false =>
        have s0 : shT f l = .none := by unfold shT; rw [hb]; rfl
        have e0 : sgOf [p, q, x, f, l] = .none := by
          show sgT p q x f l = _
          unfold sgT
          rw [hb]
          simp
        rw [s0] at fs
        rw [e0]
        refine run _ .no ?_
        unfold g_sign_in
        generalize PyData.str (S [p, q, x, f, l]) = A at ln i2 c3 ⊢
        generalize PyData.str (S [x]) = B at i2 q2
        generalize PyData.str (S [f, l]) = C at c3 fs
        simp! only [setSl, List.replicate, pinS, Md.unb, VR.ap_fld1, VR.ap_pFld, VR.ap_pKey, VR.ap_keyT1, ln, q1, i2, q2, c3, fs, isn_none]
      | true =>
        have s0 : shT f l = .tuple [.int ((f - 48 : Nat) : Int), .str (plcS l)] := by unfold shT; rw [hb]; rfl
        rw [s0] at fs
        rw [Bool.and_eq_true] at hb
        have fn : F_number_of [.val (.str (S [q])), .val (.int 1)] = some (.ret (.dat (opD (numO [q] 1))), [.val (.str (S [q])), .val (.int 1)]) := e_number (tx1 h (c := q) (by simp)) (m := 1) (by decide)
        obtain ⟨outs, g⟩ := is_sg (prt_in p) (num_in (c := q)) (fg_in hb.1) (pl_in (c := l))
        rw [pmS_c, isN_c] at g
        have ad : addD (.tuple [.str (prt p), opD (numO [q] 1)]) (.tuple [.int ((f - 48 : Nat) : Int), .str (plcS l)]) = some (.tuple [.str (prt p), opD (numO [q] 1), .int ((f - 48 : Nat) : Int), .str (plcS l)]) := rfl
        have ct : cTabG tb_PARTS (aCons (cBin subD (cVar 0) (cD (.int 0))) (aCons (cD (.str s_x)) aNil)) [.val (.str (S [p, q, x, f, l])), .no] = some (.ok (.d (.str (prt p))) [.val (.str (S [p, q, x, f, l])), .no]) := by
          unfold cTabG
          have ar : aCons (cBin subD (cVar 0) (cD (.int 0))) (aCons (cD (.str s_x)) aNil) [.val (.str (S [p, q, x, f, l])), .no] = some (.ok [.d (.str (S [p])), .d (.str s_x)] [.val (.str (S [p, q, x, f, l])), .no]) := by
            generalize PyData.str (S [p, q, x, f, l]) = A at i0 ⊢
            generalize PyData.str (S [p]) = B at i0 ⊢
            simp! only [setSl, List.replicate, pinS, Md.unb, VR.ap_fld1, VR.ap_pFld, VR.ap_pKey, VR.ap_keyT1, i0]
          unfold bnd
          rw [ar]
          show some (Er.ok (Rv.d ((tb_PARTS.lookup (S [p])).getD (.str s_x))) _) = _
          rw [parts_get]
        have k1 : sIf (cOr (cCmp neD (cCall lenD (aCons (cVar 0) aNil)) (cD (.int 5))) (cOr (cCmp neD (cBin subD (cVar 0) (cD (.int 2))) (cD (.str s_x78))) (cCmp isND (cFrz (nCall [] 1 F_showing_in (aCons (cCut (cVar 0) (oSome (cD (.int 3))) oNone) aNil))) (cD .none)))) (sRet (nDat (cD .none))) sNil [.val (.str (S [p, q, x, f, l])), .no] = some (.nx [.val (.str (S [p, q, x, f, l])), .no]) := by
          generalize PyData.str (S [p, q, x, f, l]) = A at ln i2 c3 ⊢
          generalize PyData.str (S [x]) = B at i2 q2
          generalize PyData.str (S [f, l]) = C at c3 fs
          simp! only [setSl, List.replicate, pinS, Md.unb, VR.ap_fld1, VR.ap_pFld, VR.ap_pKey, VR.ap_keyT1, ln, q1, i2, q2, c3, fs, isn_tup]
        have k2 : sSet 1 (cBin addD (cTup (aCons (cTabG tb_PARTS (aCons (cBin subD (cVar 0) (cD (.int 0))) (aCons (cD (.str s_x)) aNil))) (aCons (cFrz (nCall [] 2 F_number_of (aCons (cBin subD (cVar 0) (cD (.int 1))) (aCons (cD (.int 1)) aNil)))) aNil))) (cFrz (nCall [] 1 F_showing_in (aCons (cCut (cVar 0) (oSome (cD (.int 3))) oNone) aNil)))) [.val (.str (S [p, q, x, f, l])), .no] = some (.nx [.val (.str (S [p, q, x, f, l])), .val (.tuple [.str (prt p), opD (numO [q] 1), .int ((f - 48 : Nat) : Int), .str (plcS l)])]) := by
          generalize PyData.str (S [p, q, x, f, l]) = A at i1 c3 ct ⊢
          generalize PyData.str (S [q]) = B at i1 fn
          generalize PyData.str (S [f, l]) = C at c3 fs
          generalize cTabG tb_PARTS (aCons (cBin subD (cVar 0) (cD (.int 0))) (aCons (cD (.str s_x)) aNil)) = ff at ct ⊢
          generalize opD (numO [q] 1) = o at fn ad ⊢
          simp! only [setSl, List.replicate, pinS, Md.unb, VR.ap_fld1, VR.ap_pFld, VR.ap_pKey, VR.ap_keyT1, i1, fn, c3, fs, ct, ad]
        refine run _ (.val (.tuple [.str (prt p), opD (numO [q] 1), .int ((f - 48 : Nat) : Int), .str (plcS l)])) ?_
        unfold g_sign_in
        rw [seq_nx k1, seq_nx k2]
        show _ = some (Out.rt (Tr.dat (sgT p q x f l)) _)
        unfold sgT
        rw [decide_eq_true hx, hb.1, hb.2]
        simp only [Bool.and_true]
        cases hv : (pmB p && dig q) with
        | false =>
          rw [hv] at g
          generalize PyData.tuple [.str (prt p), opD (numO [q] 1), .int ((f - 48 : Nat) : Int), .str (plcS l)] = T at g ⊢
          generalize PyData.str (S [p, q, x, f, l]) = A
          simp! only [setSl, List.replicate, pinS, Md.unb, VR.ap_fld1, VR.ap_pFld, VR.ap_pKey, VR.ap_keyT1, g]
        | true =>
          rw [hv] at g
          rw [Bool.and_eq_true] at hv
          have et : PyData.tuple [.str (prt p), opD (numO [q] 1), .int ((f - 48 : Nat) : Int), .str (plcS l)] = .tuple [.str (plm p), .int ((q - 48 : Nat) : Int), .int ((f - 48 : Nat) : Int), .str (plcS l)] := by rw [prt_plm hv.1, num_dig hv.2]; rfl
          rw [if_pos rfl, ← et]
          generalize PyData.tuple [.str (prt p), opD (numO [q] 1), .int ((f - 48 : Nat) : Int), .str (plcS l)] = T at g ⊢
          generalize PyData.str (S [p, q, x, f, l]) = A
          simp! only [setSl, List.replicate, pinS, Md.unb, VR.ap_fld1, VR.ap_pFld, VR.ap_pKey, VR.ap_keyT1, g]
    · have e0 : sgOf [p, q, x, f, l] = .none := by
        show sgT p q x f l = _
        unfold sgT
        rw [decide_eq_false hx]
        simp
      rw [decide_eq_false (by simpa using hx)] at q2
      rw [e0]
      refine run _ .no ?_
      unfold g_sign_in
      generalize PyData.str (S [p, q, x, f, l]) = A at ln i2 ⊢
      generalize PyData.str (S [x]) = B at i2 q2
      simp! only [setSl, List.replicate, pinS, Md.unb, VR.ap_fld1, VR.ap_pFld, VR.ap_pKey, VR.ap_keyT1, ln, q1, i2, q2]
  · have e0 : sgOf a = .none := by
      unfold sgOf
      split
      · exact absurd rfl h5
      · rfl
    have q1 : neD (.int (a.length : Nat)) (.int 5) = some true := by
      show some (!decide ((a.length : Int) = 5)) = _
      rw [decide_eq_false (by omega)]
      rfl
    rw [e0]
    refine run _ .no ?_
    unfold g_sign_in
    generalize PyData.str (S a) = A at ln ⊢
    simp! only [setSl, List.replicate, pinS, Md.unb, VR.ap_fld1, VR.ap_pFld, VR.ap_pKey, VR.ap_keyT1, ln, q1]
end K24

end

section
set_option Elab.async false
set_option linter.all false
set_option maxRecDepth 100000
set_option maxHeartbeats 4000000
namespace K24
open PySem PySem.Spec PyProof.Rows L2 VL SM SN SP SH
theorem mem19 {c : Nat} : decide (c ∈ [49, 50, 51, 52, 53, 54, 55, 56, 57]) = fgB c := by
  unfold fgB
  rw [Bool.eq_iff_iff, Bool.and_eq_true, decide_eq_true_eq, decide_eq_true_eq, decide_eq_true_eq]
  simp only [List.mem_cons, List.not_mem_nil, or_false]
  omega
theorem in_19 {c : Nat} : inD (.str (S [c])) (.str s_123456789) = some (fgB c) := by
  rw [← mem19]
  exact in_S
theorem in_cw {c : Nat} : inD (.str (S [c])) (.str s_cw) = some (plcB c) := by
  have : decide (c ∈ [99, 119]) = plcB c := by
    unfold plcB
    rw [Bool.eq_iff_iff, Bool.or_eq_true, decide_eq_true_eq, decide_eq_true_eq, decide_eq_true_eq]
    simp
  rw [← this]
  exact in_S
theorem notIn_bs {c : Nat} : notInD (.str (S [c])) (.str s_bs) = some (!pmB c) := by
  have : decide (c ∈ [98, 115]) = pmB c := by
    unfold pmB
    rw [Bool.eq_iff_iff, Bool.or_eq_true, decide_eq_true_eq, decide_eq_true_eq, decide_eq_true_eq]
    simp
  rw [← this]
  exact notIn_S
theorem tx119 : Tx [119] := ⟨by decide, by decide⟩
theorem tx115 : Tx [115] := ⟨by decide, by decide⟩
theorem int_one {c : Nat} (h : dig c = true) : intTD [.str (S [c])] = some (.int ((c - 48 : Nat) : Int)) := by
  have := int_S (a := [c]) (by simpa using h) (by simp) (by simp)
  rw [this]
  show some (PyData.int ((0 * 10 + (c - 48) : Nat) : Int)) = _
  congr 2
  omega
theorem fg_dig {c : Nat} (h : fgB c = true) : dig c = true := by
  unfold fgB at h
  unfold dig
  simp only [Bool.and_eq_true, decide_eq_true_eq] at h ⊢
  omega
noncomputable abbrev lsF (k : Nat) : Fn := F__law_read_sign k
theorem e_lread2 {c0 c1 k : Nat} (h : Tx [c0, c1]) : ∃ o, lsF (k + 1) [.val (.str (S [c0, c1]))] = some (.ret (.dat (shT c0 c1)), o) := by
  have ln : lenD [.str (S [c0, c1])] = some (.int 2) := len_S h.n
  have q1 : eqD (.int 2) (.int 2) = some true := rfl
  have run : ∀ d s1 s2, g__law_read_sign (lsF k) [.val (.str (S [c0, c1])), .no, .no, .no, .no] = some (.rt (.dat d) [.val (.str (S [c0, c1])), s1, s2, .no, .no]) → ∃ o, lsF (k + 1) [.val (.str (S [c0, c1]))] = some (.ret (.dat d), o) := fun d s1 s2 e => ⟨_, run_rt (n := 5) (ρ' := [.val (.str (S [c0, c1])), s1, s2, .no, .no]) (g := g__law_read_sign (lsF k)) (args := [.val (.str (S [c0, c1]))]) e⟩
  have gs : VL.gS 2 (gsC (gN 1) (gsC (gN 2) gsN)) (.str (S [c0, c1])) [.val (.str (S [c0, c1])), .no, .no, .no, .no] = some [.val (.str (S [c0, c1])), .val (.str (S [c0])), .val (.str (S [c1])), .no, .no] := rfl
  have ag : sAsg (VL.gS 2 (gsC (gN 1) (gsC (gN 2) gsN))) (cVar 0) [.val (.str (S [c0, c1])), .no, .no, .no, .no] = some (.nx [.val (.str (S [c0, c1])), .val (.str (S [c0])), .val (.str (S [c1])), .no, .no]) := r_asg (r_var rfl) gs
  have q2 := in_19 (c := c0)
  have q3 := in_cw (c := c1)
  have q4 : eqD (.str (S [c1])) (.str s_w) = some (decide ([c1] = [119])) := eq_S (tx1 h (by simp)) tx119
  refine run (shT c0 c1) (.val (.str (S [c0]))) (.val (.str (S [c1]))) ?_
  unfold g__law_read_sign
  unfold shT
  cases hb : (fgB c0 && plcB c1) with
  | false =>
    have k1 : ∀ ρ : Rho, ρ = [.val (.str (S [c0, c1])), .val (.str (S [c0])), .val (.str (S [c1])), .no, .no] → cAnd (cCmp inD (cVar 1) (cD (.str s_123456789))) (cCmp inD (cVar 2) (cD (.str s_cw))) ρ = some (.ok false ρ) := fun ρ e => by
      subst e
      generalize PyData.str (S [c0, c1]) = A
      generalize PyData.str (S [c0]) = B at q2 ⊢
      generalize PyData.str (S [c1]) = C at q3 ⊢
      generalize PyData.str s_123456789 = D at q2 ⊢
      generalize PyData.str s_cw = E at q3 ⊢
      cases h1 : fgB c0 with
      | false =>
        rw [h1] at q2
        simp! only [setSl, List.replicate, pinS, Md.unb, VR.ap_fld1, VR.ap_pFld, VR.ap_pKey, VR.ap_keyT1, q2]
      | true =>
        rw [h1] at hb q2
        have hb : plcB c1 = false := by simpa using hb
        rw [hb] at q3
        simp! only [setSl, List.replicate, pinS, Md.unb, VR.ap_fld1, VR.ap_pFld, VR.ap_pKey, VR.ap_keyT1, q2, q3]
    have k1 := k1 _ rfl
    generalize PyData.str (S [c0, c1]) = A at ln ag k1 ⊢
    generalize PyData.str (S [c0]) = B at ag k1 ⊢
    generalize PyData.str (S [c1]) = C at ag k1 ⊢
    generalize sAsg (VL.gS 2 (gsC (gN 1) (gsC (gN 2) gsN))) (cVar 0) = fA at ag ⊢
    generalize cAnd (cCmp inD (cVar 1) (cD (.str s_123456789))) (cCmp inD (cVar 2) (cD (.str s_cw))) = fB at k1 ⊢
    simp! only [setSl, List.replicate, pinS, Md.unb, VR.ap_fld1, VR.ap_pFld, VR.ap_pKey, VR.ap_keyT1, ln, q1, ag, k1]
  | true =>
    rw [Bool.and_eq_true] at hb
    rw [hb.1] at q2
    rw [hb.2] at q3
    have it := int_one (fg_dig hb.1)
    rw [if_pos rfl]
    have fin : ∀ b : Bool, decide ([c1] = [119]) = b → plcS c1 = (if b then sBrow else sChin) := fun b e => by
      subst e
      unfold plcS
      by_cases z : c1 = 119 <;> simp [z]
    cases hw : decide ([c1] = [119]) with
    | true =>
      rw [hw] at q4
      rw [fin _ hw]
      have ib : intTD [.bool true] = some (.int 1) := rfl
      have tl : Tr.toD (.lst [.dat (.str sChin), .dat (.str sBrow)]) = some (.list [.str sChin, .str sBrow]) := rfl
      have sb : subD (.list [.str sChin, .str sBrow]) (.int 1) = some (.str sBrow) := rfl
      generalize PyData.str (S [c0, c1]) = A at ln ag ⊢
      generalize PyData.str (S [c0]) = B at ag q2 it ⊢
      generalize PyData.str (S [c1]) = C at ag q3 q4 ⊢
      generalize sAsg (VL.gS 2 (gsC (gN 1) (gsC (gN 2) gsN))) (cVar 0) = fA at ag ⊢
      simp! only [setSl, List.replicate, pinS, Md.unb, VR.ap_fld1, VR.ap_pFld, VR.ap_pKey, VR.ap_keyT1, ln, q1, ag, q2, q3, it, q4, ib, tl, sb]
    | false =>
      rw [hw] at q4
      rw [fin _ hw]
      have ib : intTD [.bool false] = some (.int 0) := rfl
      have tl : Tr.toD (.lst [.dat (.str sChin), .dat (.str sBrow)]) = some (.list [.str sChin, .str sBrow]) := rfl
      have sb : subD (.list [.str sChin, .str sBrow]) (.int 0) = some (.str sChin) := rfl
      generalize PyData.str (S [c0, c1]) = A at ln ag ⊢
      generalize PyData.str (S [c0]) = B at ag q2 it ⊢
      generalize PyData.str (S [c1]) = C at ag q3 q4 ⊢
      generalize sAsg (VL.gS 2 (gsC (gN 1) (gsC (gN 2) gsN))) (cVar 0) = fA at ag ⊢
      simp! only [setSl, List.replicate, pinS, Md.unb, VR.ap_fld1, VR.ap_pFld, VR.ap_pKey, VR.ap_keyT1, ln, q1, ag, q2, q3, it, q4, ib, tl, sb]
noncomputable def lrOf : List Nat → PyData
  | [c0, c1] => shT c0 c1
  | [p, q, x, f, l] => sgT p q x f l
  | _ => .none
theorem e_lread {a : List Nat} {k : Nat} (h : Tx a) : ∃ o, lsF (k + 2) [.val (.str (S a))] = some (.ret (.dat (lrOf a)), o) := by
  by_cases h2 : a.length = 2
  · obtain ⟨c0, c1, rfl⟩ : ∃ c0 c1, a = [c0, c1] := by
      match a, h2 with
      | [c0, c1], _ => exact ⟨c0, c1, rfl⟩
    exact e_lread2 h
  have ln := len_S h.n
  have q1 : eqD (.int (a.length : Nat)) (.int 2) = some false := by
    show some (decide ((a.length : Int) = 2)) = _
    rw [decide_eq_false (by omega)]
  have run : ∀ d s3 s4, g__law_read_sign (lsF (k + 1)) [.val (.str (S a)), .no, .no, .no, .no] = some (.rt (.dat d) [.val (.str (S a)), .no, .no, s3, s4]) → ∃ o, lsF (k + 2) [.val (.str (S a))] = some (.ret (.dat d), o) := fun d s3 s4 e => ⟨_, run_rt (n := 5) (ρ' := [.val (.str (S a)), .no, .no, s3, s4]) (g := g__law_read_sign (lsF (k + 1))) (args := [.val (.str (S a))]) e⟩
  by_cases h5 : a.length = 5
  · obtain ⟨p, q, x, f, l, rfl⟩ : ∃ p q x f l, a = [p, q, x, f, l] := by
      match a, h5 with
      | [p, q, x, f, l], _ => exact ⟨p, q, x, f, l, rfl⟩
    have ln : lenD [.str (S [p, q, x, f, l])] = some (.int 5) := ln
    have q1 : eqD (.int 5) (.int 2) = some false := rfl
    have q5 : neD (.int 5) (.int 5) = some false := rfl
    have i0 : subD (.str (S [p, q, x, f, l])) (.int 0) = some (.str (S [p])) := ix_S (i := 0) h.n rfl
    have i1 : subD (.str (S [p, q, x, f, l])) (.int 1) = some (.str (S [q])) := ix_S (i := 1) h.n rfl
    have i2 : subD (.str (S [p, q, x, f, l])) (.int 2) = some (.str (S [x])) := ix_S (i := 2) h.n rfl
    have qp := notIn_bs (c := p)
    have qq := notIn_dig (c := q)
    have qx : neD (.str (S [x])) (.str s_x78) = some (!decide ([x] = [120])) := ne_S (tx1 h (by simp)) tx120
    have c3 : cutD (.str (S [p, q, x, f, l])) (some 3) none = some (.str (S [f, l])) := cut_S (n := 3) h.n
    have txl : Tx [f, l] := h.sub (fun c hc => by simp at hc ⊢; rcases hc with rfl | rfl <;> simp) (by simp)
    obtain ⟨o2, fr⟩ := e_lread2 (k := k) txl
    have qs : eqD (.str (S [p])) (.str s_s) = some (decide ([p] = [115])) := eq_S (tx1 h (by simp)) tx115
    cases hb : (pmB p && dig q && decide (x = 120)) with
    | false =>
      have e0 : lrOf [p, q, x, f, l] = .none := by
        show sgT p q x f l = _
        unfold sgT
        rw [hb]
        rfl
      rw [e0]
      refine run _ .no .no ?_
      unfold g__law_read_sign
      have k1 : ∀ ρ : Rho, ρ = [.val (.str (S [p, q, x, f, l])), .no, .no, .no, .no] → cOr (cCmp neD (cCall lenD (aCons (cVar 0) aNil)) (cD (.int 5))) (cOr (cCmp notInD (cBin subD (cVar 0) (cD (.int 0))) (cD (.str s_bs))) (cOr (cCmp notInD (cBin subD (cVar 0) (cD (.int 1))) (cD (.str s_0123456789))) (cCmp neD (cBin subD (cVar 0) (cD (.int 2))) (cD (.str s_x78))))) ρ = some (.ok true ρ) := fun ρ e => by
        subst e
        generalize PyData.str (S [p, q, x, f, l]) = A at ln i0 i1 i2 ⊢
        generalize PyData.str (S [p]) = B at i0 qp ⊢
        generalize PyData.str (S [q]) = C at i1 qq ⊢
        generalize PyData.str (S [x]) = D at i2 qx ⊢
        cases h1 : pmB p with
        | false =>
          rw [h1] at qp
          simp! only [setSl, List.replicate, pinS, Md.unb, VR.ap_fld1, VR.ap_pFld, VR.ap_pKey, VR.ap_keyT1, ln, q5, i0, qp]
        | true =>
          rw [h1] at qp hb
          cases h2 : dig q with
          | false =>
            rw [h2] at qq
            simp! only [setSl, List.replicate, pinS, Md.unb, VR.ap_fld1, VR.ap_pFld, VR.ap_pKey, VR.ap_keyT1, ln, q5, i0, qp, i1, qq]
          | true =>
            rw [h2] at qq hb
            have hx : ¬ x = 120 := by simpa using hb
            rw [decide_eq_false (by simpa using hx)] at qx
            simp! only [setSl, List.replicate, pinS, Md.unb, VR.ap_fld1, VR.ap_pFld, VR.ap_pKey, VR.ap_keyT1, ln, q5, i0, qp, i1, qq, i2, qx]
      have k1 := k1 _ rfl
      generalize PyData.str (S [p, q, x, f, l]) = A at ln k1 ⊢
      generalize cOr (cCmp neD (cCall lenD (aCons (cVar 0) aNil)) (cD (.int 5))) (cOr (cCmp notInD (cBin subD (cVar 0) (cD (.int 0))) (cD (.str s_bs))) (cOr (cCmp notInD (cBin subD (cVar 0) (cD (.int 1))) (cD (.str s_0123456789))) (cCmp neD (cBin subD (cVar 0) (cD (.int 2))) (cD (.str s_x78))))) = ff at k1 ⊢
      simp! only [setSl, List.replicate, pinS, Md.unb, VR.ap_fld1, VR.ap_pFld, VR.ap_pKey, VR.ap_keyT1, ln, q1, k1]
    | true =>
      have hb2 := hb
      rw [Bool.and_eq_true, Bool.and_eq_true, decide_eq_true_eq] at hb2
      obtain ⟨⟨h1, h2⟩, h3⟩ := hb2
      rw [h1] at qp
      rw [h2] at qq
      rw [decide_eq_true (by rw [h3])] at qx
      have it := int_one h2
      have e0 : lrOf [p, q, x, f, l] = if fgB f && plcB l then .tuple [.str (plm p), .int ((q - 48 : Nat) : Int), .int ((f - 48 : Nat) : Int), .str (plcS l)] else .none := by
        show sgT p q x f l = _
        unfold sgT
        rw [hb]
        rfl
      rw [e0]
      have pl2 : ∀ b : Bool, decide ([p] = [115]) = b → plm p = (if b then sOut else sIn) := fun b e => by
        subst e
        unfold plm
        by_cases z : p = 115 <;> simp [z]
      have ib : ∀ b : Bool, intTD [.bool b] = some (.int (if b then 1 else 0)) := fun b => by cases b <;> rfl
      have tl : Tr.toD (.lst [.dat (.str sIn), .dat (.str sOut)]) = some (.list [.str sIn, .str sOut]) := rfl
      have sb : ∀ b : Bool, subD (.list [.str sIn, .str sOut]) (.int (if b then 1 else 0)) = some (.str (if b then sOut else sIn)) := fun b => by cases b <;> rfl
      generalize hB : decide ([p] = [115]) = bb at qs
      have pl2 := pl2 bb hB
      rw [pl2]
      have ib := ib bb
      have sb := sb bb
      refine run _ (.val (shT f l)) (.val (.str (if bb then sOut else sIn))) ?_
      unfold g__law_read_sign
      unfold shT at fr ⊢
      cases hc : (fgB f && plcB l) with
      | false =>
        rw [hc] at fr
        generalize PyData.str (S [p, q, x, f, l]) = A at ln i0 i1 i2 c3 ⊢
        generalize PyData.str (S [p]) = B at i0 qp qs ⊢
        generalize PyData.str (S [q]) = C at i1 qq it ⊢
        generalize PyData.str (S [x]) = D at i2 qx ⊢
        generalize PyData.str (S [f, l]) = E at c3 fr
        generalize PyData.int (if bb then 1 else 0) = J at ib sb
        generalize PyData.str (if bb then sOut else sIn) = P at sb ⊢
        generalize lsF (k + 1) = FF at fr ⊢
        simp! only [setSl, List.replicate, pinS, Md.unb, VR.ap_fld1, VR.ap_pFld, VR.ap_pKey, VR.ap_keyT1, ln, q1, q5, i0, qp, i1, qq, i2, qx, c3, fr, qs, ib, tl, sb, isn_none]
      | true =>
        rw [hc] at fr
        have ad : addD (.tuple [.str (if bb then sOut else sIn), .int ((q - 48 : Nat) : Int)]) (.tuple [.int ((f - 48 : Nat) : Int), .str (plcS l)]) = some (.tuple [.str (if bb then sOut else sIn), .int ((q - 48 : Nat) : Int), .int ((f - 48 : Nat) : Int), .str (plcS l)]) := rfl
        generalize PyData.str (S [p, q, x, f, l]) = A at ln i0 i1 i2 c3 ⊢
        generalize PyData.str (S [p]) = B at i0 qp qs ⊢
        generalize PyData.str (S [q]) = C at i1 qq it ⊢
        generalize PyData.str (S [x]) = D at i2 qx ⊢
        generalize PyData.str (S [f, l]) = E at c3 fr
        generalize PyData.int (if bb then 1 else 0) = J at ib sb
        generalize PyData.str (if bb then sOut else sIn) = P at sb ad ⊢
        generalize lsF (k + 1) = FF at fr ⊢
        generalize PyData.int ((q - 48 : Nat) : Int) = Q at it ad ⊢
        simp! only [setSl, List.replicate, pinS, Md.unb, VR.ap_fld1, VR.ap_pFld, VR.ap_pKey, VR.ap_keyT1, ln, q1, q5, i0, qp, i1, qq, i2, qx, c3, fr, qs, ib, tl, sb, isn_tup, it, ad]
  · have e0 : lrOf a = .none := by
      unfold lrOf
      split
      · exact absurd rfl h2
      · exact absurd rfl h5
      · rfl
    have q5 : neD (.int (a.length : Nat)) (.int 5) = some true := by
      show some (!decide ((a.length : Int) = 5)) = _
      rw [decide_eq_false (by omega)]
      rfl
    rw [e0]
    refine run _ .no .no ?_
    unfold g__law_read_sign
    generalize PyData.str (S a) = A at ln ⊢
    simp! only [setSl, List.replicate, pinS, Md.unb, VR.ap_fld1, VR.ap_pFld, VR.ap_pKey, VR.ap_keyT1, ln, q1, q5]
end K24

end

section
set_option Elab.async false
set_option linter.all false
set_option maxRecDepth 100000
set_option maxHeartbeats 4000000
namespace K24
open PySem PySem.Spec PyProof.Rows L2 VL SM SN SP SH
theorem join_mem {y c : Nat} : ∀ {ls : List (List Nat)} {l : List Nat}, l ∈ ls → c ∈ l → c ∈ TL.joinL [y] ls
  | [], _, h, _ => by cases h
  | [p], l, h, hc => by
    rw [List.mem_singleton.mp h] at hc
    exact hc
  | p :: q :: r, l, h, hc => by
    show c ∈ p ++ ([y] ++ TL.joinL [y] (q :: r))
    rcases List.mem_cons.mp h with e | h
    · rw [e] at hc
      exact List.mem_append_left _ hc
    · exact List.mem_append_right _ (List.mem_append_right _ (join_mem h hc))
noncomputable def wds (a : List Nat) : List (List Nat) := (Txt.split (S a) s_x20).map fun w => w.cps.toList
theorem wds_S (a : List Nat) : Txt.split (S a) s_x20 = (wds a).map S := by
  unfold wds
  rw [List.map_map]
  conv => lhs; rw [← List.map_id (Txt.split (S a) s_x20)]
  refine List.map_congr_left fun w _ => (S_tl w).symm
theorem wds_tx {a : List Nat} (h : Tx a) : ∀ w ∈ wds a, Tx w := fun w hw => by
  obtain ⟨x, hx, rfl⟩ := List.mem_map.mp hw
  have j := StrLaws.join_split (S a) s_x20
  have j2 := congrArg TL.tl j
  rw [TL.tl_join] at j2
  refine h.sub (fun c hc => ?_) ?_
  · have := join_mem (y := 32) (List.mem_map.mpr ⟨x, hx, rfl⟩ : TL.tl x ∈ (Txt.split (S a) s_x20).map TL.tl) hc
    have e : TL.joinL [32] ((Txt.split (S a) s_x20).map TL.tl) = a := j2
    rw [e] at this
    exact this
  · have := PyProof.Rows.part_short hx
    rw [S_len] at this
    exact this
theorem wds_len {a : List Nat} (h : Tx a) : (wds a).length ≤ 100002 := by
  have := PyProof.Rows.split_le (S a) s_x20
  rw [S_len] at this
  have n := h.n
  unfold wds
  rw [List.length_map]
  omega
noncomputable def wD (ws : List (List Nat)) : PyData := .list (ws.map fun w => .str (S w))
theorem split_D {a : List Nat} (h : Tx a) {ρ : Rho} {f : M Rv} (hf : f ρ = some (.ok (.d (.str (S a))) ρ)) : cSplit f (cD (.str s_x20)) ρ = some (.ok (.d (wD (wds a))) ρ) := by
  unfold cSplit bnd
  rw [hf]
  show split1 (S a) (.d (.str s_x20)) ρ = _
  show (if s_x20.length ≠ 0 ∧ (S a).length + 2 ≤ sizeLine then some (Er.ok (Rv.d (PyData.list ((Txt.split (S a) s_x20).map PyData.str))) ρ) else none) = _
  have hn := h.n
  rw [if_pos ⟨by decide, by rw [S_len, sizeLine_eq]; omega⟩, wds_S, List.map_map]
  rfl
noncomputable abbrev boL : List Nat := [98, 111, 117, 103, 104, 116]
noncomputable abbrev soL : List Nat := [115, 111, 108, 100]
noncomputable abbrev atL : List Nat := [97, 116]
noncomputable abbrev inL : List Nat := [105, 110]
noncomputable abbrev frL : List Nat := [102, 114, 111, 109]
noncomputable abbrev toL : List Nat := [116, 111]
noncomputable def sideB (w : List Nat) : Bool := decide (w = boL) || decide (w = soL)
noncomputable def lnk (w : List Nat) : List Nat := if w = soL then toL else frL
theorem links_in {w : List Nat} : (tb_LINKS.lookup (S w)).isSome = sideB w ∧ (sideB w = true → tb_LINKS.lookup (S w) = some (.str (S (lnk w)))) := by
  have e1 : (S w == sBought) = decide (w = boL) := SX.S_beq_eq (a := w) (b := boL)
  have e2 : (S w == sSold) = decide (w = soL) := SX.S_beq_eq (a := w) (b := soL)
  unfold tb_LINKS sideB lnk
  simp only [List.lookup, e1, e2]
  by_cases h1 : w = boL
  · subst h1
    exact ⟨rfl, fun _ => rfl⟩
  · by_cases h2 : w = soL
    · subst h2
      exact ⟨rfl, fun _ => rfl⟩
    · simp [h1, h2]
theorem tx_small {l : List Nat} (h : (l.all (· < 128)) = true) (h2 : l.length ≤ 100) : Tx l := ⟨fun c hc => of_decide_eq_true (List.all_eq_true.mp h c hc), by omega⟩
theorem sh3 {u v w : List Nat} (h1 : Tx u) (h2 : Tx v) (h3 : Tx w) : Sh 1 (.list [.str (S u), .str (S v), .str (S w)]) := .list (n := 0) fun x hx => by
  simp only [List.mem_cons, List.not_mem_nil, or_false] at hx
  rcases hx with rfl | rfl | rfl
  · exact h1.sh
  · exact h2.sh
  · exact h3.sh
theorem ne_3 {u v w u' v' w' : List Nat} (h1 : Tx u) (h2 : Tx v) (h3 : Tx w) (h1' : Tx u') (h2' : Tx v') (h3' : Tx w') : neD (.list [.str (S u), .str (S v), .str (S w)]) (.list [.str (S u'), .str (S v'), .str (S w')]) = some (!(decide (u = u') && decide (v = v') && decide (w = w'))) := by
  unfold neD
  rw [(sh3 h1 h2 h3).ok (by decide), (sh3 h1' h2' h3').ok (by decide)]
  show some (!PyData.eqv _ _) = _
  simp only [PyData.eqv, PyData.eqvAll]
  have e : ∀ a b : List Nat, (S a == S b) = decide (a = b) := fun a b => SX.S_beq_eq
  rw [e, e, e]
  simp [Bool.and_assoc]
noncomputable def linkB (w1 w3 w5 w7 : List Nat) : Bool := sideB w1 && (decide (w3 = atL) && decide (w5 = lnk w1) && decide (w7 = inL))
noncomputable abbrev nu (w : List Nat) : PyData := opD (numO w 20)
noncomputable def cdD (w0 w1 w2 w4 w6 w8 : List Nat) : PyData := .tuple [nu w0, nu w6, .str (S w1), nu w4, nu w2, nu w8]
noncomputable def cdW : List (List Nat) → PyData
  | [w0, w1, w2, w3, w4, w5, w6, w7, w8] => if linkB w1 w3 w5 w7 && SP6.cardD (cdD w0 w1 w2 w4 w6 w8) then cdD w0 w1 w2 w4 w6 w8 else .none
  | _ => .none
theorem sh_op {o : Option Int} {n : Nat} : Sh n (opD o) := by
  cases o
  · exact Sh.none
  · exact Sh.int
theorem sh_cd {w0 w1 w2 w4 w6 w8 : List Nat} (h : Tx w1) : Sh 1 (cdD w0 w1 w2 w4 w6 w8) := .tuple (n := 0) fun x hx => by
  simp only [List.mem_cons, List.not_mem_nil, or_false] at hx
  rcases hx with rfl | rfl | rfl | rfl | rfl | rfl
  · exact sh_op
  · exact sh_op
  · exact h.sh
  · exact sh_op
  · exact sh_op
  · exact sh_op
theorem is_cd {w0 w1 w2 w4 w6 w8 : List Nat} (h : Tx w1) : ∃ o, SM.F_is_card [.val (cdD w0 w1 w2 w4 w6 w8)] = some (.ret (.dat (.bool (SP6.cardD (cdD w0 w1 w2 w4 w6 w8)))), o) := by
  obtain ⟨t, o, e, rfl⟩ := SP6.is_card_ok ((sh_cd (w0 := w0) (w2 := w2) (w4 := w4) (w6 := w6) (w8 := w8) h).mono (show 1 ≤ 9 by omega)) (Q := fun t _ => t = .dat (.bool (SP6.cardD (cdD w0 w1 w2 w4 w6 w8)))) rfl
  exact ⟨o, e⟩
theorem is_lcd {w0 w1 w2 w4 w6 w8 : List Nat} (h : Tx w1) : ∃ o, SM.F__law_is_card [.val (cdD w0 w1 w2 w4 w6 w8)] = some (.ret (.dat (.bool (SP6.cardD (cdD w0 w1 w2 w4 w6 w8)))), o) := by
  obtain ⟨t, o, e, rfl⟩ := SP6.law_card_ok ((sh_cd (w0 := w0) (w2 := w2) (w4 := w4) (w6 := w6) (w8 := w8) h).mono (show 1 ≤ 9 by omega)) (Q := fun t _ => t = .dat (.bool (SP6.cardD (cdD w0 w1 w2 w4 w6 w8)))) rfl
  exact ⟨o, e⟩
theorem f_num {w : List Nat} (h : Tx w) : F_number_of [.val (.str (S w)), .val (.int 20)] = some (.ret (.dat (nu w)), [.val (.str (S w)), .val (.int 20)]) := e_number h (m := 20) (by decide)
theorem f_lnum {w : List Nat} (h : Tx w) : K24.F__law_number [.val (.str (S w)), .val (.int 20)] = some (.ret (.dat (nu w)), [.val (.str (S w)), .val (.int 20)]) := e_lnumber h (m := 20) (by decide)
theorem wbGo_d2 {d e : PyData} {os : List Sl} : ∀ (i : Nat) (ρ : Rho), wbGo [Rv.d d, Rv.d e] os i ρ = ρ
  | _, [] => rfl
  | i, s :: ρ => by
    show s :: wbGo [Rv.d d, Rv.d e] os (i + 1) ρ = s :: ρ
    rw [wbGo_d2 (i + 1) ρ]
theorem num_comp {X : PyData} {F : Fn} {ks : List Int} {i v : Nat} {ρ : Rho} {fi : M (List PyData)} {W : Int → List Nat} (hi : fi ρ = some (.ok (ks.map fun k => .int k) ρ)) (hl : ks.length ≤ 100) (hv : ρ[v]? = some .no)
    (hX : ∀ d, (ρ.set v (.val d))[i]? = some (.val X)) (hs : ∀ k ∈ ks, subD X (.int k) = some (.str (S (W k)))) (hF : ∀ k ∈ ks, F [.val (.str (S (W k))), .val (.int 20)] = some (.ret (.dat (nu (W k))), [.val (.str (S (W k))), .val (.int 20)])) :
    cFrz (nComp fi [v] (gN v) tYesM (cFrz (nCall [] 2 F (aCons (cBin subD (cVar i) (cVar v)) (aCons (cD (.int 20)) aNil))))) ρ = some (.ok (.d (.list (ks.map fun k => nu (W k)))) ρ) := by
  refine r_compD (D := fun k : Int => .int k) (ds := ks) (s := .no) (fun k => nu (W k)) hi (by omega) hv rfl fun k hk => ?_
  have vl : v < ρ.length := (List.getElem?_eq_some_iff.mp hv).1
  have r1 := r_var (hX (.int k))
  have r2 : cVar v (ρ.set v (.val (.int k))) = some (.ok (.d (.int k)) (ρ.set v (.val (.int k)))) := r_var (List.getElem?_set_self vl)
  have s := hs k hk
  have f := hF k hk
  generalize ρ.set v (.val (.int k)) = ρ' at r1 r2 ⊢
  generalize nu (W k) = N at f ⊢
  generalize PyData.str (S (W k)) = A at s f
  simp! only [setSl, List.replicate, pinS, Md.unb, VR.ap_fld1, VR.ap_pFld, VR.ap_pKey, VR.ap_keyT1, -VR.ap_cVar, r1, r2, s, f]
  rw [wbGo_d2]
theorem ix_wD {w0 w1 w2 w3 w4 w5 w6 w7 w8 : List Nat} : ∀ k ∈ ([0, 1, 2, 3, 4, 5, 6, 7, 8] : List Int), subD (wD [w0, w1, w2, w3, w4, w5, w6, w7, w8]) (.int k) = some (.str (S (([w0, w1, w2, w3, w4, w5, w6, w7, w8] : List (List Nat)).getD k.toNat []))) := by
  intro k hk
  simp only [List.mem_cons, List.not_mem_nil, or_false] at hk
  rcases hk with rfl | rfl | rfl | rfl | rfl | rfl | rfl | rfl | rfl <;> rfl
theorem bnd_ok2 {α β : Type} {f : M α} {k : α → M β} {ρ ρ1 : Rho} {a : α} (h : f ρ = some (.ok a ρ1)) : bnd f k ρ = k a ρ1 := by
  unfold bnd
  rw [h]
theorem r_tab {tb : List (Str × PyData)} {f : M Rv} {ρ ρ1 : Rho} {z : Str} {d : PyData} (h : f ρ = some (.ok (.d (.str z)) ρ1)) (hl : tb.lookup z = some d) : cTab tb f ρ = some (.ok (.d d) ρ1) := by
  unfold cTab
  rw [bnd_ok2 h]
  show (match tb.lookup z with
    | some d => some (Er.ok (Rv.d d) ρ1)
    | none => none) = _
  rw [hl]
noncomputable abbrev Exo (F : Fn) (a : List Sl) (d : PyData) : Prop := (d = .none ∧ ∃ o, F a = some (.exc SM.s_NoText, o)) ∨ (d ≠ .none ∧ ∃ o, F a = some (.ret (.dat d), o))
theorem e_read_card {a : List Nat} (h : Tx a) : Exo F_read_card [.val (.str (S a))] (cdW (wds a)) := by
  have txw := wds_tx h
  have wl := wds_len h
  have a1 : sSet 1 (cIf (cTest (cIsi .str (cVar 0))) (cSplit (cVar 0) (cD (.str s_x20))) (cFrz (nLst aNil))) [.val (.str (S a)), .no, .no, .no, .no, .no, .no, .no] = some (.nx [.val (.str (S a)), .val (wD (wds a)), .no, .no, .no, .no, .no, .no]) := by
    have sp := split_D h (ρ := [.val (.str (S a)), .no, .no, .no, .no, .no, .no, .no]) (f := cVar 0) (r_var rfl)
    have ct : cTest (cIsi .str (cVar 0)) [.val (.str (S a)), .no, .no, .no, .no, .no, .no, .no] = some (.ok true [.val (.str (S a)), .no, .no, .no, .no, .no, .no, .no]) := rfl
    generalize wD (wds a) = X at sp ⊢
    generalize PyData.str (S a) = A at sp ct ⊢
    generalize cTest (cIsi .str (cVar 0)) = f1 at ct ⊢
    generalize cSplit (cVar 0) (cD (.str s_x20)) = f2 at sp ⊢
    simp! only [setSl, List.replicate, pinS, Md.unb, VR.ap_fld1, VR.ap_pFld, VR.ap_pKey, VR.ap_keyT1, ct, sp]
  have fin : ∀ c ρ', g_read_card [.val (.str (S a)), .no, .no, .no, .no, .no, .no, .no] = some (.ex c ρ') → ∃ o, F_read_card [.val (.str (S a))] = some (.exc c, o) := fun c ρ' e => by
    refine ⟨ρ'.take 1, ?_⟩
    unfold F_read_card runF
    show (match g_read_card [.val (.str (S a)), .no, .no, .no, .no, .no, .no, .no] with
      | some (.nx ρ') => some (FR.ret (.dat .none), ρ'.take 1)
      | some (.rt t ρ') => some (.ret t, ρ'.take 1)
      | some (.ex c ρ') => some (.exc c, ρ'.take 1)
      | _ => none) = _
    rw [e]
  generalize wds a = ws at txw wl a1 ⊢
  by_cases h9 : ws.length = 9
  · obtain ⟨w0, w1, w2, w3, w4, w5, w6, w7, w8, rfl⟩ : ∃ w0 w1 w2 w3 w4 w5 w6 w7 w8, ws = [w0, w1, w2, w3, w4, w5, w6, w7, w8] := by
      match ws, h9 with
      | [w0, w1, w2, w3, w4, w5, w6, w7, w8], _ => exact ⟨w0, w1, w2, w3, w4, w5, w6, w7, w8, rfl⟩
    have t0 := txw w0 (by simp)
    have t1 := txw w1 (by simp)
    have t2 := txw w2 (by simp)
    have t3 := txw w3 (by simp)
    have t4 := txw w4 (by simp)
    have t5 := txw w5 (by simp)
    have t6 := txw w6 (by simp)
    have t7 := txw w7 (by simp)
    have t8 := txw w8 (by simp)
    have ln : lenD [wD [w0, w1, w2, w3, w4, w5, w6, w7, w8]] = some (.int 9) := rfl
    have n9 : neD (.int 9) (.int 9) = some false := rfl
    have ix := ix_wD (w0 := w0) (w1 := w1) (w2 := w2) (w3 := w3) (w4 := w4) (w5 := w5) (w6 := w6) (w7 := w7) (w8 := w8)
    have i0 : subD (wD [w0, w1, w2, w3, w4, w5, w6, w7, w8]) (.int 0) = some (.str (S w0)) := ix 0 (by simp)
    have i1 : subD (wD [w0, w1, w2, w3, w4, w5, w6, w7, w8]) (.int 1) = some (.str (S w1)) := ix 1 (by simp)
    have i3 : subD (wD [w0, w1, w2, w3, w4, w5, w6, w7, w8]) (.int 3) = some (.str (S w3)) := ix 3 (by simp)
    have i5 : subD (wD [w0, w1, w2, w3, w4, w5, w6, w7, w8]) (.int 5) = some (.str (S w5)) := ix 5 (by simp)
    have i7 : subD (wD [w0, w1, w2, w3, w4, w5, w6, w7, w8]) (.int 7) = some (.str (S w7)) := ix 7 (by simp)
    have li := links_in (w := w1)
    have cin : ∀ ρ : Rho, cTabIn true tb_LINKS (cBin subD (cVar 1) (cD (.int 1))) ([.val (.str (S a)), .val (wD [w0, w1, w2, w3, w4, w5, w6, w7, w8])] ++ ρ) = some (.ok (!sideB w1) ([.val (.str (S a)), .val (wD [w0, w1, w2, w3, w4, w5, w6, w7, w8])] ++ ρ)) := fun ρ => by
      unfold cTabIn
      rw [bnd_ok2 (a := .d (.str (S w1))) (r_bin (r_var rfl) rfl i1)]
      show some (Er.ok (if true then !(tb_LINKS.lookup (S w1)).isSome else (tb_LINKS.lookup (S w1)).isSome) _) = _
      rw [li.1]
      rfl
    have cin : cTabIn true tb_LINKS (cBin subD (cVar 1) (cD (.int 1))) [.val (.str (S a)), .val (wD [w0, w1, w2, w3, w4, w5, w6, w7, w8]), .no, .no, .no, .no, .no, .no] = some (.ok (!sideB w1) [.val (.str (S a)), .val (wD [w0, w1, w2, w3, w4, w5, w6, w7, w8]), .no, .no, .no, .no, .no, .no]) := cin [.no, .no, .no, .no, .no, .no]
    show Exo _ _ (if linkB w1 w3 w5 w7 && SP6.cardD (cdD w0 w1 w2 w4 w6 w8) then cdD w0 w1 w2 w4 w6 w8 else .none)
    cases hs : sideB w1 with
    | false =>
      have e0 : linkB w1 w3 w5 w7 = false := by unfold linkB; rw [hs]; rfl
      rw [e0]
      refine .inl ⟨rfl, fin SM.s_NoText [.val (.str (S a)), .val (wD [w0, w1, w2, w3, w4, w5, w6, w7, w8]), .no, .no, .no, .no, .no, .no] ?_⟩
      unfold g_read_card
      rw [seq_nx a1]
      rw [hs] at cin
      have cin : _ = some (Er.ok true _) := cin
      show _ = some (Out.ex _ _)
      generalize wD [w0, w1, w2, w3, w4, w5, w6, w7, w8] = X at ln cin ⊢
      generalize cTabIn true tb_LINKS (cBin subD (cVar 1) (cD (.int 1))) = f1 at cin ⊢
      simp! only [setSl, List.replicate, pinS, Md.unb, VR.ap_fld1, VR.ap_pFld, VR.ap_pKey, VR.ap_keyT1, ln, n9, cin]
    | true =>
      rw [hs] at cin
      have cin : _ = some (Er.ok false _) := cin
      have lk := li.2 hs
      have a2 : sIf (cOr (cCmp neD (cCall lenD (aCons (cVar 1) aNil)) (cD (.int 9))) (cTabIn true tb_LINKS (cBin subD (cVar 1) (cD (.int 1))))) (sRaise SM.s_NoText) sNil [.val (.str (S a)), .val (wD [w0, w1, w2, w3, w4, w5, w6, w7, w8]), .no, .no, .no, .no, .no, .no] = some (.nx [.val (.str (S a)), .val (wD [w0, w1, w2, w3, w4, w5, w6, w7, w8]), .no, .no, .no, .no, .no, .no]) := by
        generalize wD [w0, w1, w2, w3, w4, w5, w6, w7, w8] = X at ln cin ⊢
        generalize cTabIn true tb_LINKS (cBin subD (cVar 1) (cD (.int 1))) = f1 at cin ⊢
        simp! only [setSl, List.replicate, pinS, Md.unb, VR.ap_fld1, VR.ap_pFld, VR.ap_pKey, VR.ap_keyT1, ln, n9, cin]
      have ct : cTab tb_LINKS (cBin subD (cVar 1) (cD (.int 1))) [.val (.str (S a)), .val (wD [w0, w1, w2, w3, w4, w5, w6, w7, w8]), .no, .no, .no, .no, .no, .no] = some (.ok (.d (.str (S (lnk w1)))) [.val (.str (S a)), .val (wD [w0, w1, w2, w3, w4, w5, w6, w7, w8]), .no, .no, .no, .no, .no, .no]) := r_tab (r_bin (r_var rfl) rfl i1) lk
      have lt : Tx (lnk w1) := by
        unfold lnk
        split
        · exact tx_small rfl (by decide)
        · exact tx_small rfl (by decide)
      have q3 := ne_3 t3 t5 t7 (tx_small (l := atL) rfl (by decide)) lt (tx_small (l := inL) rfl (by decide))
      have td1 : Tr.toD (.lst [.dat (.str (S w3)), .dat (.str (S w5)), .dat (.str (S w7))]) = some (.list [.str (S w3), .str (S w5), .str (S w7)]) := rfl
      have td2 : Tr.toD (.lst [.dat (.str s_at), .dat (.str (S (lnk w1))), .dat (.str sIn)]) = some (.list [.str (S atL), .str (S (lnk w1)), .str (S inL)]) := rfl
      cases hk : (decide (w3 = atL) && decide (w5 = lnk w1) && decide (w7 = inL)) with
      | false =>
        have e0 : linkB w1 w3 w5 w7 = false := by unfold linkB; rw [hs, hk]; rfl
        rw [e0]
        rw [hk] at q3
        have q3 : _ = some true := q3
        refine .inl ⟨rfl, fin SM.s_NoText [.val (.str (S a)), .val (wD [w0, w1, w2, w3, w4, w5, w6, w7, w8]), .no, .no, .no, .no, .no, .no] ?_⟩
        unfold g_read_card
        rw [seq_nx a1, seq_nx a2]
        generalize wD [w0, w1, w2, w3, w4, w5, w6, w7, w8] = X at i3 i5 i7 ct ⊢
        generalize cTab tb_LINKS (cBin subD (cVar 1) (cD (.int 1))) = f1 at ct ⊢
        generalize PyData.list [.str (S w3), .str (S w5), .str (S w7)] = L1 at td1 q3
        generalize PyData.list [.str (S atL), .str (S (lnk w1)), .str (S inL)] = L2 at td2 q3
        generalize PyData.str (S w3) = B3 at i3 td1
        generalize PyData.str (S w5) = B5 at i5 td1
        generalize PyData.str (S w7) = B7 at i7 td1
        generalize PyData.str (S (lnk w1)) = BL at ct td2
        simp! only [setSl, List.replicate, pinS, Md.unb, VR.ap_fld1, VR.ap_pFld, VR.ap_pKey, VR.ap_keyT1, i3, i5, i7, ct, td1, td2, q3]
      | true =>
        have e0 : linkB w1 w3 w5 w7 = true := by unfold linkB; rw [hs, hk]; rfl
        rw [e0]
        rw [hk] at q3
        have q3 : _ = some false := q3
        have a3 : sIf (cCmp neD (cFrz (nLst (aCons (cBin subD (cVar 1) (cD (.int 3))) (aCons (cBin subD (cVar 1) (cD (.int 5))) (aCons (cBin subD (cVar 1) (cD (.int 7))) aNil))))) (cFrz (nLst (aCons (cD (.str s_at)) (aCons (cTab tb_LINKS (cBin subD (cVar 1) (cD (.int 1)))) (aCons (cD (.str sIn)) aNil)))))) (sRaise SM.s_NoText) sNil [.val (.str (S a)), .val (wD [w0, w1, w2, w3, w4, w5, w6, w7, w8]), .no, .no, .no, .no, .no, .no] = some (.nx [.val (.str (S a)), .val (wD [w0, w1, w2, w3, w4, w5, w6, w7, w8]), .no, .no, .no, .no, .no, .no]) := by
          generalize wD [w0, w1, w2, w3, w4, w5, w6, w7, w8] = X at i3 i5 i7 ct ⊢
          generalize cTab tb_LINKS (cBin subD (cVar 1) (cD (.int 1))) = f1 at ct ⊢
          generalize PyData.list [.str (S w3), .str (S w5), .str (S w7)] = L1 at td1 q3
          generalize PyData.list [.str (S atL), .str (S (lnk w1)), .str (S inL)] = L2 at td2 q3
          generalize PyData.str (S w3) = B3 at i3 td1
          generalize PyData.str (S w5) = B5 at i5 td1
          generalize PyData.str (S w7) = B7 at i7 td1
          generalize PyData.str (S (lnk w1)) = BL at ct td2
          simp! only [setSl, List.replicate, pinS, Md.unb, VR.ap_fld1, VR.ap_pFld, VR.ap_pKey, VR.ap_keyT1, i3, i5, i7, ct, td1, td2, q3]
        have nc := num_comp (X := wD [w0, w1, w2, w3, w4, w5, w6, w7, w8]) (F := F_number_of) (ks := [2, 4, 6, 8]) (i := 1) (v := 6) (ρ := [.val (.str (S a)), .val (wD [w0, w1, w2, w3, w4, w5, w6, w7, w8]), .no, .no, .no, .no, .no, .no]) (fi := iSeq (cTup (aCons (cD (.int 2)) (aCons (cD (.int 4)) (aCons (cD (.int 6)) (aCons (cD (.int 8)) aNil)))))) (W := fun k => ([w0, w1, w2, w3, w4, w5, w6, w7, w8] : List (List Nat)).getD k.toNat []) rfl (by decide) rfl (fun _ => rfl) (fun k hk => ix k (by simp at hk ⊢; omega)) (fun k hk => by
          simp only [List.mem_cons, List.not_mem_nil, or_false] at hk
          rcases hk with rfl | rfl | rfl | rfl
          · exact f_num t2
          · exact f_num t4
          · exact f_num t6
          · exact f_num t8)
        have nc : cFrz (nComp (iSeq (cTup (aCons (cD (.int 2)) (aCons (cD (.int 4)) (aCons (cD (.int 6)) (aCons (cD (.int 8)) aNil)))))) [6] (gN 6) tYesM (cFrz (nCall [] 2 F_number_of (aCons (cBin subD (cVar 1) (cVar 6)) (aCons (cD (.int 20)) aNil))))) [.val (.str (S a)), .val (wD [w0, w1, w2, w3, w4, w5, w6, w7, w8]), .no, .no, .no, .no, .no, .no] = some (.ok (.d (.list [nu w2, nu w4, nu w6, nu w8])) [.val (.str (S a)), .val (wD [w0, w1, w2, w3, w4, w5, w6, w7, w8]), .no, .no, .no, .no, .no, .no]) := nc
        have a4 : sAsg (VL.gL 4 (gsC (gN 2) (gsC (gN 3) (gsC (gN 4) (gsC (gN 5) gsN))))) (cFrz (nComp (iSeq (cTup (aCons (cD (.int 2)) (aCons (cD (.int 4)) (aCons (cD (.int 6)) (aCons (cD (.int 8)) aNil)))))) [6] (gN 6) tYesM (cFrz (nCall [] 2 F_number_of (aCons (cBin subD (cVar 1) (cVar 6)) (aCons (cD (.int 20)) aNil)))))) [.val (.str (S a)), .val (wD [w0, w1, w2, w3, w4, w5, w6, w7, w8]), .no, .no, .no, .no, .no, .no] = some (.nx [.val (.str (S a)), .val (wD [w0, w1, w2, w3, w4, w5, w6, w7, w8]), .val (nu w2), .val (nu w4), .val (nu w6), .val (nu w8), .no, .no]) := r_asg nc rfl
        have f0 := f_num t0
        have a5 : sSet 7 (cTup (aCons (cFrz (nCall [] 2 F_number_of (aCons (cBin subD (cVar 1) (cD (.int 0))) (aCons (cD (.int 20)) aNil)))) (aCons (cVar 4) (aCons (cBin subD (cVar 1) (cD (.int 1))) (aCons (cVar 3) (aCons (cVar 2) (aCons (cVar 5) aNil))))))) [.val (.str (S a)), .val (wD [w0, w1, w2, w3, w4, w5, w6, w7, w8]), .val (nu w2), .val (nu w4), .val (nu w6), .val (nu w8), .no, .no] = some (.nx [.val (.str (S a)), .val (wD [w0, w1, w2, w3, w4, w5, w6, w7, w8]), .val (nu w2), .val (nu w4), .val (nu w6), .val (nu w8), .no, .val (cdD w0 w1 w2 w4 w6 w8)]) := by
          unfold cdD
          generalize wD [w0, w1, w2, w3, w4, w5, w6, w7, w8] = X at i0 i1 ⊢
          generalize PyData.str (S w0) = B0 at i0 f0
          generalize PyData.str (S w1) = B1 at i1 ⊢
          generalize opD (numO w0 20) = N0 at f0 ⊢
          generalize opD (numO w2 20) = N2
          generalize opD (numO w4 20) = N4
          generalize opD (numO w6 20) = N6
          generalize opD (numO w8 20) = N8
          simp! only [setSl, List.replicate, pinS, Md.unb, VR.ap_fld1, VR.ap_pFld, VR.ap_pKey, VR.ap_keyT1, i0, i1, f0]
        obtain ⟨o, ic⟩ := is_cd (w0 := w0) (w2 := w2) (w4 := w4) (w6 := w6) (w8 := w8) t1
        cases hc : SP6.cardD (cdD w0 w1 w2 w4 w6 w8) with
        | false =>
          rw [hc] at ic
          refine .inl ⟨rfl, fin SM.s_NoText [.val (.str (S a)), .val (wD [w0, w1, w2, w3, w4, w5, w6, w7, w8]), .val (nu w2), .val (nu w4), .val (nu w6), .val (nu w8), .no, .val (cdD w0 w1 w2 w4 w6 w8)] ?_⟩
          unfold g_read_card
          rw [seq_nx a1, seq_nx a2, seq_nx a3, seq_nx a4, seq_nx a5]
          generalize cdD w0 w1 w2 w4 w6 w8 = C at ic ⊢
          simp! only [setSl, List.replicate, pinS, Md.unb, VR.ap_fld1, VR.ap_pFld, VR.ap_pKey, VR.ap_keyT1, ic]
        | true =>
          rw [hc] at ic
          refine .inr ⟨(by intro z; cases z), ([.val (.str (S a))] : Rho), ?_⟩
          unfold F_read_card
          refine (run_rt (n := 8) (ρ' := [.val (.str (S a)), .val (wD [w0, w1, w2, w3, w4, w5, w6, w7, w8]), .val (nu w2), .val (nu w4), .val (nu w6), .val (nu w8), .no, .val (cdD w0 w1 w2 w4 w6 w8)]) (g := g_read_card) (args := [.val (.str (S a))]) ?_).trans rfl
          show g_read_card [.val (.str (S a)), .no, .no, .no, .no, .no, .no, .no] = _
          unfold g_read_card
          rw [seq_nx a1, seq_nx a2, seq_nx a3, seq_nx a4, seq_nx a5]
          show _ = some (Out.rt (Tr.dat (cdD w0 w1 w2 w4 w6 w8)) _)
          generalize cdD w0 w1 w2 w4 w6 w8 = C at ic ⊢
          simp! only [setSl, List.replicate, pinS, Md.unb, VR.ap_fld1, VR.ap_pFld, VR.ap_pKey, VR.ap_keyT1, ic]
  · have e0 : cdW ws = .none := by
      unfold cdW
      split
      · exact absurd rfl h9
      · rfl
    rw [e0]
    have ln : lenD [wD ws] = some (.int (ws.length : Nat)) := by
      show some (PyData.int ((ws.map fun w => PyData.str (S w)).length : Nat)) = _
      rw [List.length_map]
    have n9 : neD (.int (ws.length : Nat)) (.int 9) = some true := by
      show some (!decide ((ws.length : Int) = 9)) = _
      rw [decide_eq_false (by omega)]
      rfl
    refine .inl ⟨rfl, fin SM.s_NoText [.val (.str (S a)), .val (wD ws), .no, .no, .no, .no, .no, .no] ?_⟩
    unfold g_read_card
    rw [seq_nx a1]
    generalize wD ws = X at ln ⊢
    simp! only [setSl, List.replicate, pinS, Md.unb, VR.ap_fld1, VR.ap_pFld, VR.ap_pKey, VR.ap_keyT1, ln, n9]
end K24

end

section
set_option Elab.async false
set_option linter.all false
set_option maxRecDepth 100000
set_option maxHeartbeats 4000000
namespace K24
open PySem PySem.Spec PyProof.Rows L2 VL SM SN SP SH
theorem sd_in {w : List Nat} (h : Tx w) : notInD (.str (S w)) (.list [.str sBought, .str sSold]) = some (!sideB w) := by
  have sl : Sh 2 (.list [.str sBought, .str sSold]) := SP6.sideL
  show ((if SeqAt.shaped (.str (S w)) && SeqAt.shaped (.list [.str sBought, .str sSold]) then some ([PyData.str sBought, .str sSold].any fun z => PyData.eqv z (.str (S w))) else none) : Option Bool).map (!·) = _
  rw [h.sh.ok (n := 1) (by decide), sl.ok (by decide)]
  have e1 : (sBought == S w) = decide (w = boL) := by
    rw [show sBought = S boL from rfl, SX.S_beq_eq]
    congr 1
    exact propext eq_comm
  have e2 : (sSold == S w) = decide (w = soL) := by
    rw [show sSold = S soL from rfl, SX.S_beq_eq]
    congr 1
    exact propext eq_comm
  show some (!([PyData.str sBought, .str sSold].any fun z => PyData.eqv z (.str (S w)))) = _
  simp only [List.any_cons, List.any_nil, PyData.eqv, e1, e2, Bool.or_false]
  rfl
theorem r_ifT3 {c : M Bool} {g h r : MS} {ρ ρ1 : Rho} (e : c ρ = some (.ok (!false) ρ1)) : sSeq (sIf c g h) r ρ = sSeq g r ρ1 := by
  unfold sSeq
  rw [r_ifT e]
theorem r_ifF3 {c : M Bool} {g : MS} {ρ ρ1 : Rho} (e : c ρ = some (.ok (!true) ρ1)) : sIf c g sNil ρ = some (.nx ρ1) := by
  rw [r_ifF e]
  rfl
theorem e_lread_card {a : List Nat} (h : Tx a) : ∃ o, F__law_read_card [.val (.str (S a))] = some (.ret (.dat (cdW (wds a))), o) := by
  have txw := wds_tx h
  have wl := wds_len h
  have a1 : sSet 1 (cSplit (cVar 0) (cD (.str s_x20))) [.val (.str (S a)), .no, .no, .no, .no] = some (.nx [.val (.str (S a)), .val (wD (wds a)), .no, .no, .no]) := r_set (ρ1 := [.val (.str (S a)), .no, .no, .no, .no]) (split_D h (r_var rfl)) rfl
  have run : ∀ d s2 s4, g__law_read_card [.val (.str (S a)), .no, .no, .no, .no] = some (.rt (.dat d) [.val (.str (S a)), .val (wD (wds a)), s2, .no, s4]) → ∃ o, F__law_read_card [.val (.str (S a))] = some (.ret (.dat d), o) := fun d s2 s4 e => ⟨_, run_rt (n := 5) (ρ' := [.val (.str (S a)), .val (wD (wds a)), s2, .no, s4]) (g := g__law_read_card) (args := [.val (.str (S a))]) e⟩
  generalize wds a = ws at txw wl a1 run ⊢
  by_cases h9 : ws.length = 9
  · obtain ⟨w0, w1, w2, w3, w4, w5, w6, w7, w8, rfl⟩ : ∃ w0 w1 w2 w3 w4 w5 w6 w7 w8, ws = [w0, w1, w2, w3, w4, w5, w6, w7, w8] := by
      match ws, h9 with
      | [w0, w1, w2, w3, w4, w5, w6, w7, w8], _ => exact ⟨w0, w1, w2, w3, w4, w5, w6, w7, w8, rfl⟩
    have t0 := txw w0 (by simp)
    have t1 := txw w1 (by simp)
    have t2 := txw w2 (by simp)
    have t3 := txw w3 (by simp)
    have t4 := txw w4 (by simp)
    have t5 := txw w5 (by simp)
    have t6 := txw w6 (by simp)
    have t7 := txw w7 (by simp)
    have t8 := txw w8 (by simp)
    have ln : lenD [wD [w0, w1, w2, w3, w4, w5, w6, w7, w8]] = some (.int 9) := rfl
    have n9 : neD (.int 9) (.int 9) = some false := rfl
    have ix := ix_wD (w0 := w0) (w1 := w1) (w2 := w2) (w3 := w3) (w4 := w4) (w5 := w5) (w6 := w6) (w7 := w7) (w8 := w8)
    have i1 : subD (wD [w0, w1, w2, w3, w4, w5, w6, w7, w8]) (.int 1) = some (.str (S w1)) := ix 1 (by simp)
    have i3 : subD (wD [w0, w1, w2, w3, w4, w5, w6, w7, w8]) (.int 3) = some (.str (S w3)) := ix 3 (by simp)
    have i5 : subD (wD [w0, w1, w2, w3, w4, w5, w6, w7, w8]) (.int 5) = some (.str (S w5)) := ix 5 (by simp)
    have i7 : subD (wD [w0, w1, w2, w3, w4, w5, w6, w7, w8]) (.int 7) = some (.str (S w7)) := ix 7 (by simp)
    have si := sd_in t1
    have tl : Tr.toD (.lst [.dat (.str sBought), .dat (.str sSold)]) = some (.list [.str sBought, .str sSold]) := rfl
    show ∃ o, _ = some (FR.ret (.dat (if linkB w1 w3 w5 w7 && SP6.cardD (cdD w0 w1 w2 w4 w6 w8) then cdD w0 w1 w2 w4 w6 w8 else .none)), o)
    cases hs : sideB w1 with
    | false =>
      have e0 : linkB w1 w3 w5 w7 = false := by unfold linkB; rw [hs]; rfl
      rw [e0]
      rw [hs] at si
      have si : _ = some true := si
      refine run _ .no .no ?_
      unfold g__law_read_card
      rw [seq_nx a1]
      show _ = some (Out.rt (.dat .none) _)
      generalize wD [w0, w1, w2, w3, w4, w5, w6, w7, w8] = X at ln i1 ⊢
      generalize PyData.str (S w1) = B at i1 si
      simp! only [setSl, List.replicate, pinS, Md.unb, VR.ap_fld1, VR.ap_pFld, VR.ap_pKey, VR.ap_keyT1, ln, n9, i1, tl, si]
    | true =>
      rw [hs] at si
      have si : _ = some false := si
      have a2 : sIf (cOr (cCmp neD (cCall lenD (aCons (cVar 1) aNil)) (cD (.int 9))) (cCmp notInD (cBin subD (cVar 1) (cD (.int 1))) (cFrz (nLst (aCons (cD (.str sBought)) (aCons (cD (.str sSold)) aNil)))))) (sRet (nDat (cD .none))) sNil [.val (.str (S a)), .val (wD [w0, w1, w2, w3, w4, w5, w6, w7, w8]), .no, .no, .no] = some (.nx [.val (.str (S a)), .val (wD [w0, w1, w2, w3, w4, w5, w6, w7, w8]), .no, .no, .no]) := by
        generalize wD [w0, w1, w2, w3, w4, w5, w6, w7, w8] = X at ln i1 ⊢
        generalize PyData.str (S w1) = B at i1 si
        simp! only [setSl, List.replicate, pinS, Md.unb, VR.ap_fld1, VR.ap_pFld, VR.ap_pKey, VR.ap_keyT1, ln, n9, i1, tl, si]
      have qs : eqD (.str (S w1)) (.str sSold) = some (decide (w1 = soL)) := eq_S t1 (tx_small (l := soL) rfl (by decide))
      have lt : Tx (lnk w1) := by
        unfold lnk
        split
        · exact tx_small rfl (by decide)
        · exact tx_small rfl (by decide)
      have ib : intD [.bool (decide (w1 = soL))] = some (.int (if decide (w1 = soL) then 1 else 0)) := rfl
      have tl2 : Tr.toD (.lst [.dat (.str s_from), .dat (.str s_to)]) = some (.list [.str s_from, .str s_to]) := rfl
      have sb : subD (.list [.str s_from, .str s_to]) (.int (if decide (w1 = soL) then 1 else 0)) = some (.str (S (lnk w1))) := by
        unfold lnk
        by_cases z : w1 = soL <;> simp [z] <;> rfl
      have q3 := ne_3 t3 t5 t7 (tx_small (l := atL) rfl (by decide)) lt (tx_small (l := inL) rfl (by decide))
      have td1 : Tr.toD (.lst [.dat (.str (S w3)), .dat (.str (S w5)), .dat (.str (S w7))]) = some (.list [.str (S w3), .str (S w5), .str (S w7)]) := rfl
      have td2 : Tr.toD (.lst [.dat (.str s_at), .dat (.str (S (lnk w1))), .dat (.str sIn)]) = some (.list [.str (S atL), .str (S (lnk w1)), .str (S inL)]) := rfl
      have a3 : ∀ b : Bool, (decide (w3 = atL) && decide (w5 = lnk w1) && decide (w7 = inL)) = b → (cCmp neD (cFrz (nLst (aCons (cBin subD (cVar 1) (cD (.int 3))) (aCons (cBin subD (cVar 1) (cD (.int 5))) (aCons (cBin subD (cVar 1) (cD (.int 7))) aNil))))) (cFrz (nLst (aCons (cD (.str s_at)) (aCons (cBin subD (cFrz (nLst (aCons (cD (.str s_from)) (aCons (cD (.str s_to)) aNil)))) (cCall intD (aCons (cOf (cCmp eqD (cBin subD (cVar 1) (cD (.int 1))) (cD (.str sSold)))) aNil))) (aCons (cD (.str sIn)) aNil)))))) [.val (.str (S a)), .val (wD [w0, w1, w2, w3, w4, w5, w6, w7, w8]), .no, .no, .no] = some (.ok (!b) [.val (.str (S a)), .val (wD [w0, w1, w2, w3, w4, w5, w6, w7, w8]), .no, .no, .no]) := fun b hb => by
        rw [hb] at q3
        generalize wD [w0, w1, w2, w3, w4, w5, w6, w7, w8] = X at i1 i3 i5 i7 ⊢
        generalize PyData.list [.str (S w3), .str (S w5), .str (S w7)] = L1 at td1 q3
        generalize PyData.list [.str (S atL), .str (S (lnk w1)), .str (S inL)] = L2 at td2 q3
        generalize PyData.int (if decide (w1 = soL) then 1 else 0) = J at ib sb
        generalize decide (w1 = soL) = jb at qs ib
        generalize PyData.str (S w1) = B1 at i1 qs
        generalize PyData.str (S w3) = B3 at i3 td1
        generalize PyData.str (S w5) = B5 at i5 td1
        generalize PyData.str (S w7) = B7 at i7 td1
        generalize PyData.str (S (lnk w1)) = BL at sb td2
        simp! only [setSl, List.replicate, pinS, Md.unb, VR.ap_fld1, VR.ap_pFld, VR.ap_pKey, VR.ap_keyT1, i1, i3, i5, i7, qs, ib, tl2, sb, td1, td2, q3]
      cases hk : (decide (w3 = atL) && decide (w5 = lnk w1) && decide (w7 = inL)) with
      | false =>
        have e0 : linkB w1 w3 w5 w7 = false := by unfold linkB; rw [hs, hk]; rfl
        rw [e0]
        have a3 := a3 false hk
        refine run _ .no .no ?_
        unfold g__law_read_card
        rw [seq_nx a1, seq_nx a2]
        rw [r_ifT3 a3]
        rfl
      | true =>
        have e0 : linkB w1 w3 w5 w7 = true := by unfold linkB; rw [hs, hk]; rfl
        rw [e0]
        have a3 := r_ifF3 (g := sRet (nDat (cD .none))) (a3 true hk)
        have nc : cFrz (nComp (iSeq (cTup (aCons (cD (.int 0)) (aCons (cD (.int 6)) (aCons (cD (.int 4)) (aCons (cD (.int 2)) (aCons (cD (.int 8)) aNil))))))) [3] (gN 3) tYesM (cFrz (nCall [] 2 K24.F__law_number (aCons (cBin subD (cVar 1) (cVar 3)) (aCons (cD (.int 20)) aNil))))) [.val (.str (S a)), .val (wD [w0, w1, w2, w3, w4, w5, w6, w7, w8]), .no, .no, .no] = some (.ok (.d (.list [nu w0, nu w6, nu w4, nu w2, nu w8])) [.val (.str (S a)), .val (wD [w0, w1, w2, w3, w4, w5, w6, w7, w8]), .no, .no, .no]) :=
          num_comp (X := wD [w0, w1, w2, w3, w4, w5, w6, w7, w8]) (F := K24.F__law_number) (ks := [0, 6, 4, 2, 8]) (i := 1) (v := 3) (ρ := [.val (.str (S a)), .val (wD [w0, w1, w2, w3, w4, w5, w6, w7, w8]), .no, .no, .no]) (fi := iSeq (cTup (aCons (cD (.int 0)) (aCons (cD (.int 6)) (aCons (cD (.int 4)) (aCons (cD (.int 2)) (aCons (cD (.int 8)) aNil))))))) (W := fun k => ([w0, w1, w2, w3, w4, w5, w6, w7, w8] : List (List Nat)).getD k.toNat []) rfl (by decide) rfl (fun _ => rfl) (fun k hk => ix k (by simp at hk ⊢; omega)) (fun k hk => by
            simp only [List.mem_cons, List.not_mem_nil, or_false] at hk
            rcases hk with rfl | rfl | rfl | rfl | rfl
            · exact f_lnum t0
            · exact f_lnum t6
            · exact f_lnum t4
            · exact f_lnum t2
            · exact f_lnum t8)
        have a4 : sSet 2 _ _ = some (.nx [.val (.str (S a)), .val (wD [w0, w1, w2, w3, w4, w5, w6, w7, w8]), .val (.list [nu w0, nu w6, nu w4, nu w2, nu w8]), .no, .no]) := r_set (i := 2) nc rfl
        have j0 : subD (.list [nu w0, nu w6, nu w4, nu w2, nu w8]) (.int 0) = some (nu w0) := rfl
        have j1 : subD (.list [nu w0, nu w6, nu w4, nu w2, nu w8]) (.int 1) = some (nu w6) := rfl
        have cu : cutD (.list [nu w0, nu w6, nu w4, nu w2, nu w8]) (some 2) none = some (.list [nu w4, nu w2, nu w8]) := rfl
        have tu : tupleD [.list [nu w4, nu w2, nu w8]] = some (.tuple [nu w4, nu w2, nu w8]) := rfl
        have ad : addD (.tuple [nu w0, nu w6, .str (S w1)]) (.tuple [nu w4, nu w2, nu w8]) = some (cdD w0 w1 w2 w4 w6 w8) := rfl
        have a5 : sSet 4 (cBin addD (cTup (aCons (cBin subD (cVar 2) (cD (.int 0))) (aCons (cBin subD (cVar 2) (cD (.int 1))) (aCons (cBin subD (cVar 1) (cD (.int 1))) aNil)))) (cCall tupleD (aCons (cCut (cVar 2) (oSome (cD (.int 2))) oNone) aNil))) [.val (.str (S a)), .val (wD [w0, w1, w2, w3, w4, w5, w6, w7, w8]), .val (.list [nu w0, nu w6, nu w4, nu w2, nu w8]), .no, .no] = some (.nx [.val (.str (S a)), .val (wD [w0, w1, w2, w3, w4, w5, w6, w7, w8]), .val (.list [nu w0, nu w6, nu w4, nu w2, nu w8]), .no, .val (cdD w0 w1 w2 w4 w6 w8)]) := by
          generalize cdD w0 w1 w2 w4 w6 w8 = C at ad ⊢
          generalize PyData.list [nu w0, nu w6, nu w4, nu w2, nu w8] = L at j0 j1 cu ⊢
          generalize PyData.list [nu w4, nu w2, nu w8] = L3 at cu tu
          generalize PyData.tuple [nu w4, nu w2, nu w8] = T3 at tu ad
          generalize wD [w0, w1, w2, w3, w4, w5, w6, w7, w8] = X at i1 ⊢
          generalize PyData.str (S w1) = B1 at i1 ad ⊢
          generalize opD (numO w0 20) = N0 at j0 ad
          generalize opD (numO w6 20) = N6 at j1 ad
          simp! only [setSl, List.replicate, pinS, Md.unb, VR.ap_fld1, VR.ap_pFld, VR.ap_pKey, VR.ap_keyT1, j0, j1, i1, cu, tu, ad]
        obtain ⟨o, ic⟩ := is_lcd (w0 := w0) (w2 := w2) (w4 := w4) (w6 := w6) (w8 := w8) t1
        have shc := sh_cd (w0 := w0) (w2 := w2) (w4 := w4) (w6 := w6) (w8 := w8) t1
        refine run _ (.val (.list [nu w0, nu w6, nu w4, nu w2, nu w8])) (.val (cdD w0 w1 w2 w4 w6 w8)) ?_
        unfold g__law_read_card
        rw [seq_nx a1, seq_nx a2, seq_nx a3, seq_nx a4]
        rw [seq_nx a5]
        cases hc : SP6.cardD (cdD w0 w1 w2 w4 w6 w8) with
        | false =>
          rw [hc] at ic
          show _ = some (Out.rt (.dat .none) _)
          generalize cdD w0 w1 w2 w4 w6 w8 = C at ic ⊢
          simp! only [setSl, List.replicate, pinS, Md.unb, VR.ap_fld1, VR.ap_pFld, VR.ap_pKey, VR.ap_keyT1, ic]
        | true =>
          rw [hc] at ic
          show _ = some (Out.rt (.dat (cdD w0 w1 w2 w4 w6 w8)) _)
          generalize cdD w0 w1 w2 w4 w6 w8 = C at ic ⊢
          simp! only [setSl, List.replicate, pinS, Md.unb, VR.ap_fld1, VR.ap_pFld, VR.ap_pKey, VR.ap_keyT1, ic]
  · have e0 : cdW ws = .none := by
      unfold cdW
      split
      · exact absurd rfl h9
      · rfl
    rw [e0]
    have ln : lenD [wD ws] = some (.int (ws.length : Nat)) := by
      show some (PyData.int ((ws.map fun w => PyData.str (S w)).length : Nat)) = _
      rw [List.length_map]
    have n9 : neD (.int (ws.length : Nat)) (.int 9) = some true := by
      show some (!decide ((ws.length : Int) = 9)) = _
      rw [decide_eq_false (by omega)]
      rfl
    refine run _ .no .no ?_
    unfold g__law_read_card
    rw [seq_nx a1]
    generalize wD ws = X at ln ⊢
    simp! only [setSl, List.replicate, pinS, Md.unb, VR.ap_fld1, VR.ap_pFld, VR.ap_pKey, VR.ap_keyT1, ln, n9]
theorem ex_of {F : Fn} {g : MS} {n : Nat} {d : PyData} (hF : F = runF n g) {c : Str} {ρ' : Rho} (e : g (entry n [.val d]) = some (.ex c ρ')) : ∃ o, F [.val d] = some (.exc c, o) := by
  subst hF
  refine ⟨ρ'.take 1, ?_⟩
  unfold runF
  rw [e]
  rfl
theorem e_read_showing {a : List Nat} (h : Tx a) : Exo F_read_showing [.val (.str (S a))] (shOf a) := by
  have f := e_showing_in h
  have ci : cTest (cIsi .str (cVar 0)) [.val (.str (S a))] = some (.ok true [.val (.str (S a))]) := rfl
  have two : ∀ d, shOf a = d → (d = .none ∨ ∃ xs, d = .tuple xs) → Exo F_read_showing [.val (.str (S a))] d := fun d e hd => by
    rw [e] at f
    rcases hd with rfl | ⟨xs, rfl⟩
    · refine .inl ⟨rfl, ex_of (n := 1) (g := g_read_showing) (ρ' := [.val (.str (S a))]) rfl ?_⟩
      show g_read_showing [.val (.str (S a))] = _
      unfold g_read_showing
      generalize PyData.str (S a) = A at f ci ⊢
      generalize cTest (cIsi .str (cVar 0)) = ff at ci ⊢
      simp! only [setSl, List.replicate, pinS, Md.unb, VR.ap_fld1, VR.ap_pFld, VR.ap_pKey, VR.ap_keyT1, ci, f, isn_none]
    · refine .inr ⟨(by intro z; cases z), ([.val (.str (S a))] : Rho), ?_⟩
      unfold F_read_showing
      refine (run_rt (n := 1) (ρ' := [.val (.str (S a))]) (g := g_read_showing) (args := [.val (.str (S a))]) ?_).trans rfl
      show g_read_showing [.val (.str (S a))] = _
      unfold g_read_showing
      generalize PyData.str (S a) = A at f ci ⊢
      generalize cTest (cIsi .str (cVar 0)) = ff at ci ⊢
      simp! only [setSl, List.replicate, pinS, Md.unb, VR.ap_fld1, VR.ap_pFld, VR.ap_pKey, VR.ap_keyT1, ci, f, isn_tup]
  refine two _ rfl ?_
  unfold shOf
  split
  · unfold shT
    split
    · exact .inr ⟨_, rfl⟩
    · exact .inl rfl
  · exact .inl rfl
theorem e_read_sign {a : List Nat} (h : Tx a) : Exo F_read_sign [.val (.str (S a))] (sgOf a) := by
  have f := e_sign_in h
  have ci : cTest (cIsi .str (cVar 0)) [.val (.str (S a))] = some (.ok true [.val (.str (S a))]) := rfl
  have two : ∀ d, sgOf a = d → (d = .none ∨ ∃ xs, d = .tuple xs) → Exo F_read_sign [.val (.str (S a))] d := fun d e hd => by
    rw [e] at f
    rcases hd with rfl | ⟨xs, rfl⟩
    · refine .inl ⟨rfl, ex_of (n := 1) (g := g_read_sign) (ρ' := [.val (.str (S a))]) rfl ?_⟩
      show g_read_sign [.val (.str (S a))] = _
      unfold g_read_sign
      generalize PyData.str (S a) = A at f ci ⊢
      generalize cTest (cIsi .str (cVar 0)) = ff at ci ⊢
      simp! only [setSl, List.replicate, pinS, Md.unb, VR.ap_fld1, VR.ap_pFld, VR.ap_pKey, VR.ap_keyT1, ci, f, isn_none]
    · refine .inr ⟨(by intro z; cases z), ([.val (.str (S a))] : Rho), ?_⟩
      unfold F_read_sign
      refine (run_rt (n := 1) (ρ' := [.val (.str (S a))]) (g := g_read_sign) (args := [.val (.str (S a))]) ?_).trans rfl
      show g_read_sign [.val (.str (S a))] = _
      unfold g_read_sign
      generalize PyData.str (S a) = A at f ci ⊢
      generalize cTest (cIsi .str (cVar 0)) = ff at ci ⊢
      simp! only [setSl, List.replicate, pinS, Md.unb, VR.ap_fld1, VR.ap_pFld, VR.ap_pKey, VR.ap_keyT1, ci, f, isn_tup]
  refine two _ rfl ?_
  unfold sgOf
  split
  · unfold sgT
    split
    · exact .inr ⟨_, rfl⟩
    · exact .inl rfl
  · exact .inl rfl
noncomputable def wordD (d : PyData) : PyData := match d with
  | .none => .str s_x4e6f546578742b
  | d => d
theorem nt_in : SM.s_NoText ∈ kNames := by decide +kernel
theorem nt_plus : SM.s_NoText ++ plusS = s_x4e6f546578742b := by decide +kernel
theorem e_by {x d : PyData} {w : Int} {F : Fn} (hw : (w = 0 ∧ F = F_read_sign) ∨ (w = 1 ∧ F = F_read_showing) ∨ (w = 2 ∧ F = F_read_card)) (h : Exo F [.val x] d) : ∃ o, F__law_read_by [.val (.int w), .val x] = some (.ret (.dat (wordD d)), o) := by
  have same : ∀ ρ : Rho, ρ[0]? = some (.val (.int w)) → nCallIx [1] 1 [F_read_sign, F_read_showing, F_read_card] (cVar 0) (aCons (cVar 1) aNil) ρ = nCallR [1] 1 F (aCons (cVar 1) aNil) ρ := fun ρ h0 => by
    unfold nCallIx
    rw [bnd_ok2 (r_var h0)]
    rcases hw with ⟨rfl, rfl⟩ | ⟨rfl, rfl⟩ | ⟨rfl, rfl⟩ <;> rfl
  have same := same [.val (.int w), .val x, .val .none, .val (.str s_x), .no] rfl
  have a1 : sSet 2 (cD .none) [.val (.int w), .val x, .no, .no, .no] = some (.nx [.val (.int w), .val x, .val .none, .no, .no]) := rfl
  have a2 : sSet 3 (cD (.str s_x)) [.val (.int w), .val x, .val .none, .no, .no] = some (.nx [.val (.int w), .val x, .val .none, .val (.str s_x), .no]) := rfl
  have run : ∀ t s2 s3, g__law_read_by [.val (.int w), .val x, .no, .no, .no] = some (.rt t [.val (.int w), .val x, s2, s3, .no]) → ∃ o, F__law_read_by [.val (.int w), .val x] = some (.ret t, o) := fun t s2 s3 e => ⟨_, run_rt (n := 5) (ρ' := [.val (.int w), .val x, s2, s3, .no]) (g := g__law_read_by) (args := [.val (.int w), .val x]) e⟩
  have q0 : eqD (.str s_x) (.str s_x) = some true := by decide +kernel
  have q1 : eqD (.str s_x4e6f546578742b) (.str s_x) = some false := by decide +kernel
  rcases h with ⟨rfl, o, f⟩ | ⟨hd, o, f⟩
  · refine run _ (.val .none) (.val (.str s_x4e6f546578742b)) ?_
    have a3 : (sSet 2 (cFrz (nCallIx [1] 1 [F_read_sign, F_read_showing, F_read_card] (cVar 0) (aCons (cVar 1) aNil)))) [.val (.int w), .val x, .val .none, .val (.str s_x), .no] = some (.ex SM.s_NoText [.val (.int w), .val x, .val .none, .val (.str s_x), .no]) := by
      generalize nCallIx [1] 1 [F_read_sign, F_read_showing, F_read_card] (cVar 0) (aCons (cVar 1) aNil) = ff at same ⊢
      simp! only [setSl, List.replicate, pinS, Md.unb, VR.ap_fld1, VR.ap_pFld, VR.ap_pKey, VR.ap_keyT1, same, f]
    have a4 : sTryK kNames 4 3 (sSet 2 (cFrz (nCallIx [1] 1 [F_read_sign, F_read_showing, F_read_card] (cVar 0) (aCons (cVar 1) aNil)))) [.val (.int w), .val x, .val .none, .val (.str s_x), .no] = some (.nx [.val (.int w), .val x, .val .none, .val (.str s_x4e6f546578742b), .no]) := by
      unfold sTryK
      rw [a3]
      show (if SM.s_NoText ∈ kNames ∧ isNo ([.val (.int w), .val x, .val .none, .val (.str s_x), .no] : Rho)[4]? = true then _ else none) = _
      rw [if_pos ⟨nt_in, rfl⟩, nt_plus]
      rfl
    unfold g__law_read_by
    rw [seq_nx a1, seq_nx a2, seq_nx a4]
    show _ = some (Out.rt (.dat (.str s_x4e6f546578742b)) _)
    simp! only [setSl, List.replicate, pinS, Md.unb, VR.ap_fld1, VR.ap_pFld, VR.ap_pKey, VR.ap_keyT1, q1]
  · have ew : wordD d = d := by
      cases d <;> first | rfl | exact absurd rfl hd
    rw [ew]
    refine run _ (.val d) (.val (.str s_x)) ?_
    have a3 : (sSet 2 (cFrz (nCallIx [1] 1 [F_read_sign, F_read_showing, F_read_card] (cVar 0) (aCons (cVar 1) aNil)))) [.val (.int w), .val x, .val .none, .val (.str s_x), .no] = some (.nx [.val (.int w), .val x, .val d, .val (.str s_x), .no]) := by
      generalize nCallIx [1] 1 [F_read_sign, F_read_showing, F_read_card] (cVar 0) (aCons (cVar 1) aNil) = ff at same ⊢
      simp! only [setSl, List.replicate, pinS, Md.unb, VR.ap_fld1, VR.ap_pFld, VR.ap_pKey, VR.ap_keyT1, same, f]
    have a4 : sTryK kNames 4 3 (sSet 2 (cFrz (nCallIx [1] 1 [F_read_sign, F_read_showing, F_read_card] (cVar 0) (aCons (cVar 1) aNil)))) [.val (.int w), .val x, .val .none, .val (.str s_x), .no] = some (.nx [.val (.int w), .val x, .val d, .val (.str s_x), .no]) := by
      unfold sTryK
      rw [a3]
    unfold g__law_read_by
    rw [seq_nx a1, seq_nx a2, seq_nx a4]
    simp! only [setSl, List.replicate, pinS, Md.unb, VR.ap_fld1, VR.ap_pFld, VR.ap_pKey, VR.ap_keyT1, q0]
theorem by_comp {x d0 d1 d2 : PyData} {i v : Nat} {ρ : Rho} (hv : ρ[v]? = some .no) (hx : ∀ d, (ρ.set v (.val d))[i]? = some (.val x)) (h0 : Exo F_read_sign [.val x] d0) (h1 : Exo F_read_showing [.val x] d1) (h2 : Exo F_read_card [.val x] d2) :
    cFrz (nComp (iRange1 (aCons (cD (.int 3)) aNil)) [v] (gN v) tYesM (cFrz (nCall [v, i] 2 F__law_read_by (aCons (cVar v) (aCons (cVar i) aNil))))) ρ = some (.ok (.d (.list [wordD d0, wordD d1, wordD d2])) ρ) := by
  have vl : v < ρ.length := (List.getElem?_eq_some_iff.mp hv).1
  have it : iRange1 (aCons (cD (.int 3)) aNil) ρ = some (.ok ((List.range 3).map fun k => .int (0 + (k : Nat))) ρ) := rng2 (by
    simp! only [setSl, List.replicate, pinS, Md.unb, VR.ap_fld1, VR.ap_pFld, VR.ap_pKey, VR.ap_keyT1]
    rfl) (by decide)
  have c := r_compD (D := fun k : Nat => .int (0 + (k : Nat))) (ds := List.range 3) (v := v) (s := .no) (te := cFrz (nCall [v, i] 2 F__law_read_by (aCons (cVar v) (aCons (cVar i) aNil)))) (ρ := ρ) (fun k => wordD (([d0, d1, d2] : List PyData).getD k .none)) it (by decide) hv rfl (fun k hk => by
    have r1 := r_var (hx (.int (0 + (k : Nat))))
    have r2 : cVar v (ρ.set v (.val (.int (0 + (k : Nat))))) = some (.ok (.d (.int (0 + (k : Nat)))) (ρ.set v (.val (.int (0 + (k : Nat)))))) := r_var (List.getElem?_set_self vl)
    have f : ∃ o, F__law_read_by [.val (.int (0 + (k : Nat))), .val x] = some (.ret (.dat (wordD (([d0, d1, d2] : List PyData).getD k .none))), o) := by
      have : k = 0 ∨ k = 1 ∨ k = 2 := by have := List.mem_range.mp hk; omega
      rcases this with rfl | rfl | rfl
      · exact e_by (.inl ⟨rfl, rfl⟩) h0
      · exact e_by (.inr (.inl ⟨rfl, rfl⟩)) h1
      · exact e_by (.inr (.inr ⟨rfl, rfl⟩)) h2
    obtain ⟨o, f⟩ := f
    generalize wordD (([d0, d1, d2] : List PyData).getD k .none) = D at f ⊢
    generalize ρ.set v (.val (.int (0 + (k : Nat)))) = ρ' at r1 r2 ⊢
    generalize ((0 : Int) + (k : Nat)) = z at r2 f
    simp! only [setSl, List.replicate, pinS, Md.unb, VR.ap_fld1, VR.ap_pFld, VR.ap_pKey, VR.ap_keyT1, -VR.ap_cVar, r1, r2, f]
    rw [wbGo_d2])
  exact c
end K24

end

section
set_option Elab.async false
set_option linter.all false
set_option maxRecDepth 100000
set_option maxHeartbeats 4000000
namespace K24
open PySem PySem.Spec PyProof.Rows L2 VL SM SN SP SH
theorem lr_5 {a : List Nat} : (if a.length = 5 then lrOf a else .none) = sgOf a := by
  by_cases h : a.length = 5
  · rw [if_pos h]
    match a, h with
    | [p, q, x, f, l], _ => rfl
  · rw [if_neg h]
    unfold sgOf
    split
    · exact absurd rfl h
    · rfl
theorem lr_2 {a : List Nat} : (if a.length = 2 then lrOf a else .none) = shOf a := by
  by_cases h : a.length = 2
  · rw [if_pos h]
    match a, h with
    | [p, q], _ => rfl
  · rw [if_neg h]
    unfold shOf
    split
    · exact absurd rfl h
    · rfl
theorem sh_sg {a : List Nat} : Sh 2 (sgOf a) := by
  unfold sgOf
  split
  · unfold sgT
    split
    · refine (Sh.tuple (n := 0) fun x hx => ?_).mono (by omega)
      simp only [List.mem_cons, List.not_mem_nil, or_false] at hx
      rcases hx with rfl | rfl | rfl | rfl
      · refine .str ?_
        unfold plm
        split <;> decide +kernel
      · exact Sh.int
      · exact Sh.int
      · refine .str ?_
        unfold plcS
        split <;> decide +kernel
    · exact Sh.none
  · exact Sh.none
theorem sh_sw {a : List Nat} : Sh 2 (shOf a) := by
  unfold shOf
  split
  · unfold shT
    split
    · refine (Sh.tuple (n := 0) fun x hx => ?_).mono (by omega)
      simp only [List.mem_cons, List.not_mem_nil, or_false] at hx
      rcases hx with rfl | rfl
      · exact Sh.int
      · refine .str ?_
        unfold plcS
        split <;> decide +kernel
    · exact Sh.none
  · exact Sh.none
theorem sh_cw {ws : List (List Nat)} (h : ∀ w ∈ ws, Tx w) : Sh 2 (cdW ws) := by
  unfold cdW
  split
  · split
    · exact (sh_cd (h _ (by simp))).mono (by omega)
    · exact Sh.none
  · exact Sh.none
theorem nt_can : PyData.canLay0 (.str s_x4e6f546578742b) = true := by decide +kernel
theorem sh_word {d : PyData} (h : Sh 2 d) : Sh 2 (wordD d) := by
  cases d <;> first | exact h | exact .str nt_can
theorem eq_self {d : PyData} {n : Nat} (h : Sh n d) (hn : n ≤ 60) : eqD d d = some true := by
  have := ne_self h (by omega)
  unfold neD at this
  unfold eqD
  split at this
  · rename_i q
    rw [if_pos q]
    have : (!PyData.eqv d d) = false := Option.some.inj this
    have : PyData.eqv d d = true := by simpa using this
    rw [this]
  · cases this
theorem e_right {a : List Nat} (h : Tx a) : ∃ o, F__law_right [.val (.str (S a))] = some (.ret (.dat (.bool true)), o) := by
  obtain ⟨o1, f1⟩ := e_lread (k := 1) h
  have f1 : F__law_read_sign 3 [.val (.str (S a))] = some (.ret (.dat (lrOf a)), o1) := f1
  obtain ⟨o2, f2⟩ := e_lread_card h
  have ln := len_S h.n
  have txw := wds_tx h
  have q5 : eqD (.int (a.length : Nat)) (.int 5) = some (decide (a.length = 5)) := by
    show some (decide ((a.length : Int) = 5)) = _
    congr 1
    rw [decide_eq_decide]
    omega
  have q2 : eqD (.int (a.length : Nat)) (.int 2) = some (decide (a.length = 2)) := by
    show some (decide ((a.length : Int) = 2)) = _
    congr 1
    rw [decide_eq_decide]
    omega
  have a1 : sSet 1 (cFrz (nCall [0] 1 (F__law_read_sign 3) (aCons (cVar 0) aNil))) [.val (.str (S a)), .no, .no, .no, .no] = some (.nx [.val (.str (S a)), .val (lrOf a), .no, .no, .no]) := by
    generalize lrOf a = L at f1 ⊢
    generalize PyData.str (S a) = A at f1 ⊢
    generalize F__law_read_sign 3 = FF at f1 ⊢
    simp! only [setSl, List.replicate, pinS, Md.unb, VR.ap_fld1, VR.ap_pFld, VR.ap_pKey, VR.ap_keyT1, f1]
  have if5 : ∀ ρ : Rho, ρ = [.val (.str (S a)), .val (lrOf a), .no, .no, .no] → cIf (cCmp eqD (cCall lenD (aCons (cVar 0) aNil)) (cD (.int 5))) (cVar 1) (cD .none) ρ = some (.ok (.d (sgOf a)) ρ) := fun ρ e => by
    subst e
    rw [← lr_5]
    by_cases z : a.length = 5
    · rw [decide_eq_true z] at q5
      rw [if_pos z]
      generalize lrOf a = L
      generalize PyData.str (S a) = A at ln ⊢
      simp! only [setSl, List.replicate, pinS, Md.unb, VR.ap_fld1, VR.ap_pFld, VR.ap_pKey, VR.ap_keyT1, ln, q5]
    · rw [decide_eq_false z] at q5
      rw [if_neg z]
      generalize lrOf a = L
      generalize PyData.str (S a) = A at ln ⊢
      simp! only [setSl, List.replicate, pinS, Md.unb, VR.ap_fld1, VR.ap_pFld, VR.ap_pKey, VR.ap_keyT1, ln, q5]
  have if2 : ∀ ρ : Rho, ρ = [.val (.str (S a)), .val (lrOf a), .no, .no, .no] → cIf (cCmp eqD (cCall lenD (aCons (cVar 0) aNil)) (cD (.int 2))) (cVar 1) (cD .none) ρ = some (.ok (.d (shOf a)) ρ) := fun ρ e => by
    subst e
    rw [← lr_2]
    by_cases z : a.length = 2
    · rw [decide_eq_true z] at q2
      rw [if_pos z]
      generalize lrOf a = L
      generalize PyData.str (S a) = A at ln ⊢
      simp! only [setSl, List.replicate, pinS, Md.unb, VR.ap_fld1, VR.ap_pFld, VR.ap_pKey, VR.ap_keyT1, ln, q2]
    · rw [decide_eq_false z] at q2
      rw [if_neg z]
      generalize lrOf a = L
      generalize PyData.str (S a) = A at ln ⊢
      simp! only [setSl, List.replicate, pinS, Md.unb, VR.ap_fld1, VR.ap_pFld, VR.ap_pKey, VR.ap_keyT1, ln, q2]
  have if5 := if5 _ rfl
  have if2 := if2 _ rfl
  have a2 : sSet 2 (cFrz (nLst (aCons (cIf (cCmp eqD (cCall lenD (aCons (cVar 0) aNil)) (cD (.int 5))) (cVar 1) (cD .none)) (aCons (cIf (cCmp eqD (cCall lenD (aCons (cVar 0) aNil)) (cD (.int 2))) (cVar 1) (cD .none)) (aCons (cFrz (nCall [0] 1 F__law_read_card (aCons (cVar 0) aNil))) aNil))))) [.val (.str (S a)), .val (lrOf a), .no, .no, .no] = some (.nx [.val (.str (S a)), .val (lrOf a), .val (.list [sgOf a, shOf a, cdW (wds a)]), .no, .no]) := by
    have td : Tr.toD (.lst [.dat (sgOf a), .dat (shOf a), .dat (cdW (wds a))]) = some (.list [sgOf a, shOf a, cdW (wds a)]) := rfl
    generalize PyData.list [sgOf a, shOf a, cdW (wds a)] = L3 at td ⊢
    generalize sgOf a = D1 at if5 td ⊢
    generalize shOf a = D2 at if2 td ⊢
    generalize cdW (wds a) = D3 at f2 td ⊢
    generalize lrOf a = L at if5 if2 ⊢
    generalize PyData.str (S a) = A at if5 if2 f2 ⊢
    generalize cIf (cCmp eqD (cCall lenD (aCons (cVar 0) aNil)) (cD (.int 5))) (cVar 1) (cD .none) = c5 at if5 ⊢
    generalize cIf (cCmp eqD (cCall lenD (aCons (cVar 0) aNil)) (cD (.int 2))) (cVar 1) (cD .none) = c2 at if2 ⊢
    simp! only [setSl, List.replicate, pinS, Md.unb, VR.ap_fld1, VR.ap_pFld, VR.ap_pKey, VR.ap_keyT1, if5, if2, f2, td]
  have c1 := by_comp (x := .str (S a)) (i := 0) (v := 3) (ρ := [.val (.str (S a)), .val (lrOf a), .val (.list [sgOf a, shOf a, cdW (wds a)]), .no, .no]) rfl (fun _ => rfl) (e_read_sign h) (e_read_showing h) (e_read_card h)
  have c2 := r_compD (D := fun d : PyData => d) (ds := [sgOf a, shOf a, cdW (wds a)]) (v := 4) (s := .no) (fi := iSeq (cVar 2)) (te := cIf (cCmp isND (cVar 4) (cD .none)) (cD (.str s_x4e6f546578742b)) (cVar 4)) (ρ := [.val (.str (S a)), .val (lrOf a), .val (.list [sgOf a, shOf a, cdW (wds a)]), .no, .no]) wordD (r_seq rfl) (by simp) rfl rfl (fun d _ => by
    show cIf _ _ _ [.val (.str (S a)), .val (lrOf a), .val (.list [sgOf a, shOf a, cdW (wds a)]), .no, .val d] = some (Er.ok (Rv.d (wordD d)) [.val (.str (S a)), .val (lrOf a), .val (.list [sgOf a, shOf a, cdW (wds a)]), .no, .val d])
    by_cases z : d = .none
    · have q : isND d .none = some true := by rw [z]; rfl
      have e : wordD d = .str s_x4e6f546578742b := by rw [z]; rfl
      rw [e]
      generalize PyData.list [sgOf a, shOf a, cdW (wds a)] = L3
      generalize lrOf a = L
      generalize PyData.str (S a) = A
      simp! only [setSl, List.replicate, pinS, Md.unb, VR.ap_fld1, VR.ap_pFld, VR.ap_pKey, VR.ap_keyT1, q]
    · have q : isND d .none = some false := by
        cases d <;> first | rfl | exact absurd rfl z
      have e : wordD d = d := by
        cases d <;> first | rfl | exact absurd rfl z
      rw [e]
      generalize PyData.list [sgOf a, shOf a, cdW (wds a)] = L3
      generalize lrOf a = L
      generalize PyData.str (S a) = A
      simp! only [setSl, List.replicate, pinS, Md.unb, VR.ap_fld1, VR.ap_pFld, VR.ap_pKey, VR.ap_keyT1, q])
  have c2 : _ = some (Er.ok (Rv.d (.list [wordD (sgOf a), wordD (shOf a), wordD (cdW (wds a))])) _) := c2
  have shw : Sh 3 (.list [wordD (sgOf a), wordD (shOf a), wordD (cdW (wds a))]) := .list fun x hx => by
    simp only [List.mem_cons, List.not_mem_nil, or_false] at hx
    rcases hx with rfl | rfl | rfl
    · exact sh_word sh_sg
    · exact sh_word sh_sw
    · exact sh_word (sh_cw txw)
  have q := eq_self shw (by decide)
  refine ⟨_, run_rt (n := 5) (ρ' := [.val (.str (S a)), .val (lrOf a), .val (.list [sgOf a, shOf a, cdW (wds a)]), .no, .no]) (g := g__law_right) (args := [.val (.str (S a))]) ?_⟩
  show g__law_right [.val (.str (S a)), .no, .no, .no, .no] = _
  unfold g__law_right
  rw [seq_nx a1, seq_nx a2]
  generalize ([.val (.str (S a)), .val (lrOf a), .val (.list [sgOf a, shOf a, cdW (wds a)]), .no, .no] : Rho) = ρ at c1 c2 ⊢
  generalize cFrz (nComp (iRange1 (aCons (cD (.int 3)) aNil)) [3] (gN 3) tYesM (cFrz (nCall [3, 0] 2 F__law_read_by (aCons (cVar 3) (aCons (cVar 0) aNil))))) = f1 at c1 ⊢
  generalize cFrz (nComp (iSeq (cVar 2)) [4] (gN 4) tYesM (cIf (cCmp isND (cVar 4) (cD .none)) (cD (.str s_x4e6f546578742b)) (cVar 4))) = f2 at c2 ⊢
  generalize PyData.list [wordD (sgOf a), wordD (shOf a), wordD (cdW (wds a))] = L3 at c1 c2 q
  simp! only [setSl, List.replicate, pinS, Md.unb, VR.ap_fld1, VR.ap_pFld, VR.ap_pKey, VR.ap_keyT1, c1, c2, q]
theorem no_text {d : PyData} (h : (match d with | .str _ => false | .dict _ => false | _ => true) = true) : Exo F_read_sign [.val d] .none ∧ Exo F_read_showing [.val d] .none ∧ Exo F_read_card [.val d] .none := by
  have ci : cTest (cIsi .str (cVar 0)) [.val d] = some (.ok false [.val d]) := by
    cases d <;> first | rfl | cases h
  have ci8 : cTest (cIsi .str (cVar 0)) [.val d, .no, .no, .no, .no, .no, .no, .no] = some (.ok false [.val d, .no, .no, .no, .no, .no, .no, .no]) := by
    cases d <;> first | rfl | cases h
  refine ⟨.inl ⟨rfl, ex_of (n := 1) (g := g_read_sign) (ρ' := [.val d]) rfl ?_⟩, .inl ⟨rfl, ex_of (n := 1) (g := g_read_showing) (ρ' := [.val d]) rfl ?_⟩, .inl ⟨rfl, ex_of (n := 8) (g := g_read_card) (ρ' := [.val d, .val (.list []), .no, .no, .no, .no, .no, .no]) rfl ?_⟩⟩
  · show g_read_sign [.val d] = _
    unfold g_read_sign
    generalize cTest (cIsi .str (cVar 0)) = ff at ci ⊢
    simp! only [setSl, List.replicate, pinS, Md.unb, VR.ap_fld1, VR.ap_pFld, VR.ap_pKey, VR.ap_keyT1, ci]
  · show g_read_showing [.val d] = _
    unfold g_read_showing
    generalize cTest (cIsi .str (cVar 0)) = ff at ci ⊢
    simp! only [setSl, List.replicate, pinS, Md.unb, VR.ap_fld1, VR.ap_pFld, VR.ap_pKey, VR.ap_keyT1, ci]
  · show g_read_card [.val d, .no, .no, .no, .no, .no, .no, .no] = _
    unfold g_read_card
    have ln : lenD [.list []] = some (.int 0) := rfl
    have n9 : neD (.int 0) (.int 9) = some true := rfl
    have tl : Tr.toD (.lst []) = some (.list []) := rfl
    generalize cTest (cIsi .str (cVar 0)) = ff at ci8 ⊢
    generalize PyData.list [] = L at ln tl ⊢
    simp! only [setSl, List.replicate, pinS, Md.unb, VR.ap_fld1, VR.ap_pFld, VR.ap_pKey, VR.ap_keyT1, ci8, tl, ln, n9]
theorem no_D {x : PyData} (h : Exo F_read_sign [.val x] .none ∧ Exo F_read_showing [.val x] .none ∧ Exo F_read_card [.val x] .none) {i v : Nat} {ρ : Rho} (hv : ρ[v]? = some .no) (hx : ∀ d, (ρ.set v (.val d))[i]? = some (.val x)) :
    cFrz (nComp (iRange1 (aCons (cD (.int 3)) aNil)) [v] (gN v) tYesM (cFrz (nCall [v, i] 2 F__law_read_by (aCons (cVar v) (aCons (cVar i) aNil))))) ρ = some (.ok (.d (.list [.str s_x4e6f546578742b, .str s_x4e6f546578742b, .str s_x4e6f546578742b])) ρ) := by_comp hv hx h.1 h.2.1 h.2.2
theorem tx_none {a : List Nat} (h : Tx a) (e1 : sgOf a = .none) (e2 : shOf a = .none) (e3 : cdW (wds a) = .none) : Exo F_read_sign [.val (.str (S a))] .none ∧ Exo F_read_showing [.val (.str (S a))] .none ∧ Exo F_read_card [.val (.str (S a))] .none := by
  have h1 := e_read_sign h
  have h2 := e_read_showing h
  have h3 := e_read_card h
  rw [e1] at h1
  rw [e2] at h2
  rw [e3] at h3
  exact ⟨h1, h2, h3⟩
end K24

end

section
set_option Elab.async false
set_option linter.all false
set_option maxRecDepth 100000
set_option maxHeartbeats 4000000
namespace K24
open PySem PySem.Spec PyProof.Rows L2 VL SM SN SP SH
theorem numL_head : ∀ n : Nat, 1 ≤ n → (TL.numL n).head? ≠ some 48
  | n, h => by
    by_cases h10 : n < 10
    · rw [TL.numL_lt h10]
      intro z
      have : 48 + n = 48 := Option.some.inj z
      omega
    · rw [TL.numL_step (by omega)]
      have ih := numL_head (n / 10) (by omega)
      have ne := TL.numL_ne (n / 10)
      cases q : TL.numL (n / 10) with
      | nil => exact absurd q ne
      | cons c cs =>
        rw [q] at ih
        exact ih
  termination_by n => n
  decreasing_by omega
theorem numL_dig (n : Nat) : (TL.numL n).all dig = true := List.all_eq_true.mpr fun c hc => by
  have := TL.numL_digits n c hc
  unfold dig
  simp [this]
theorem nu_num {n : Nat} (h : n ≤ 1000000000) : nu (TL.numL n) = .int (n : Nat) := by
  have l1 : 1 ≤ (TL.numL n).length := by
    cases q : TL.numL n with
    | nil => exact absurd q (TL.numL_ne n)
    | cons c cs => simp
  have l2 : (TL.numL n).length ≤ 20 := TL.numL_len (k := 20) (by decide) (by omega)
  have z : (decide ((TL.numL n).head? = some 48) && !decide (TL.numL n = [48])) = false := by
    by_cases h0 : n = 0
    · subst h0
      have : TL.numL 0 = [48] := TL.numL_lt (by decide)
      rw [this]
      rfl
    · rw [decide_eq_false (numL_head n (by omega))]
      rfl
  show opD (numO (TL.numL n) 20) = _
  unfold numO
  rw [numL_dig, decide_eq_true l1, decide_eq_true l2, z, TL.numL_val]
  rfl
theorem tx_num {n : Nat} (h : n ≤ 1000000000) : Tx (TL.numL n) ∧ (TL.numL n).length ≤ 10 := by
  have l2 : (TL.numL n).length ≤ 10 := TL.numL_len (k := 10) (by decide) (by omega)
  exact ⟨⟨fun c hc => by have := TL.numL_digits n c hc; omega, by omega⟩, l2⟩
theorem str_num {n : Nat} (h : n ≤ 1000000000) : strD [.int (n : Nat)] = some (.str (S (TL.numL n))) := by
  show (if ((n : Nat) : Int).natAbs.log2 < 1920 then some (PyData.str (Str.ofString (toString ((n : Nat) : Int)))) else none) = _
  have lg : ((n : Nat) : Int).natAbs.log2 < 1920 := by
    show n.log2 < 1920
    by_cases h0 : n = 0
    · subst h0; decide
    · exact (Nat.log2_lt h0).mpr (Nat.lt_of_le_of_lt h (by decide))
  rw [if_pos lg, SX.num_S]
noncomputable def sgL (p : Str) (b c : Nat) (e : Str) : List Nat := [if p == sOut then 115 else 98, 48 + b, 120, 48 + c, if e == sBrow then 119 else 99]
noncomputable def isS (r : Option (FR × List Sl)) (l : List Nat) : Bool := match r with
  | some (.ret (.dat (.str s)), _) => s == S l
  | _ => false
theorem isS_ok {r : Option (FR × List Sl)} {l : List Nat} (h : isS r l = true) : ∃ o, r = some (.ret (.dat (.str (S l))), o) := by
  unfold isS at h
  split at h
  · rename_i s o
    rw [eq_of_beq h]
    exact ⟨o, rfl⟩
  · cases h
noncomputable def isT (d : PyData) (p : Str) (b c : Nat) (e : Str) : Bool := match d with
  | .tuple [.str p', .int b', .int c', .str e'] => p' == p && b' == (b : Int) && c' == (c : Int) && e' == e
  | _ => false
theorem isT_ok {d : PyData} {p : Str} {b c : Nat} {e : Str} (h : isT d p b c e = true) : d = .tuple [.str p, .int (b : Nat), .int (c : Nat), .str e] := by
  unfold isT at h
  split at h
  · simp only [Bool.and_eq_true] at h
    obtain ⟨⟨⟨h1, h2⟩, h3⟩, h4⟩ := h
    rw [eq_of_beq h1, eq_of_beq h2, eq_of_beq h3, eq_of_beq h4]
  · cases h
noncomputable def isU (d : PyData) (c : Nat) (e : Str) : Bool := match d with
  | .tuple [.int c', .str e'] => c' == (c : Int) && e' == e
  | _ => false
theorem isU_ok {d : PyData} {c : Nat} {e : Str} (h : isU d c e = true) : d = .tuple [.int (c : Nat), .str e] := by
  unfold isU at h
  split at h
  · simp only [Bool.and_eq_true] at h
    obtain ⟨h3, h4⟩ := h
    rw [eq_of_beq h3, eq_of_beq h4]
  · cases h
noncomputable def chkT (p : Str) (b c : Nat) (e : Str) : Bool :=
  isS (F__law_sign_text [.val (.tuple [.str p, .int (b : Nat), .int (c : Nat), .str e])]) (sgL p b c e) && isS (F_sign_text [.val (.tuple [.str p, .int (b : Nat), .int (c : Nat), .str e])]) (sgL p b c e) &&
  isS (F_showing_text [.val (.tuple [.int (c : Nat), .str e])]) ((sgL p b c e).drop 3) && isT (sgOf (sgL p b c e)) p b c e && isU (shOf ((sgL p b c e).drop 3)) c e && (sgL p b c e).all (· < 128)
theorem chkT_1 : ((List.range 10).all fun b => (List.range 9).all fun c => [sChin, sBrow].all fun e => chkT sIn b (c + 1) e) = true := by decide +kernel
theorem chkT_2 : ((List.range 10).all fun b => (List.range 9).all fun c => [sChin, sBrow].all fun e => chkT sOut b (c + 1) e) = true := by decide +kernel
end K24

end

section
set_option Elab.async false
set_option linter.all false
set_option maxRecDepth 100000
set_option maxHeartbeats 4000000
namespace K24
open PySem PySem.Spec PyProof.Rows L2 VL SM SN SP SH
theorem chkT_ok {p e : Str} {b c : Nat} (hp : p = sIn ∨ p = sOut) (hb : b < 10) (hc : c < 9) (he : e = sChin ∨ e = sBrow) : chkT p b (c + 1) e = true := by
  have ee : e ∈ [sChin, sBrow] := by rcases he with rfl | rfl <;> simp
  rcases hp with rfl | rfl
  · exact List.all_eq_true.mp (List.all_eq_true.mp (List.all_eq_true.mp chkT_1 b (List.mem_range.mpr hb)) c (List.mem_range.mpr hc)) e ee
  · exact List.all_eq_true.mp (List.all_eq_true.mp (List.all_eq_true.mp chkT_2 b (List.mem_range.mpr hb)) c (List.mem_range.mpr hc)) e ee
theorem sg_texts {p e : Str} {b c : Int} (h : SgOk p b c e) : ∃ l : List Nat, Tx l ∧ l.length = 5 ∧ (∃ o, F__law_sign_text [.val (sgD p b c e)] = some (.ret (.dat (.str (S l))), o)) ∧ (∃ o, F_sign_text [.val (sgD p b c e)] = some (.ret (.dat (.str (S l))), o)) ∧
    (∃ o, F_showing_text [.val (.tuple [.int c, .str e])] = some (.ret (.dat (.str (S (l.drop 3)))), o)) ∧ sgOf l = sgD p b c e ∧ shOf (l.drop 3) = .tuple [.int c, .str e] := by
  have h1 := h.b0
  have h2 := h.b9
  have h3 := h.c1
  have h4 := h.c9
  obtain ⟨b', rfl⟩ : ∃ b' : Nat, b = (b' : Int) := ⟨b.toNat, by omega⟩
  obtain ⟨c', rfl⟩ : ∃ c' : Nat, c = ((c' + 1 : Nat) : Int) := ⟨(c - 1).toNat, by omega⟩
  have k := chkT_ok (b := b') (c := c') h.ha (by omega) (by omega) h.hd
  unfold chkT at k
  simp only [Bool.and_eq_true] at k
  obtain ⟨⟨⟨⟨⟨k1, k2⟩, k3⟩, k4⟩, k5⟩, k6⟩ := k
  exact ⟨sgL p b' (c' + 1) e, tx_small k6 (by show 5 ≤ 100; decide), rfl, isS_ok k1, isS_ok k2, isS_ok k3, isT_ok k4, isU_ok k5⟩
noncomputable abbrev jn (ws : List (List Nat)) : List Nat := TL.joinL [32] ws
theorem jn_len : ∀ ws : List (List Nat), (jn ws).length ≤ (ws.map List.length).sum + ws.length
  | [] => by simp [jn, TL.joinL]
  | [p] => by simp [jn, TL.joinL]
  | p :: q :: r => by
    have := jn_len (q :: r)
    show (p ++ ([32] ++ jn (q :: r))).length ≤ (p.length + ((q :: r).map List.length).sum) + ((q :: r).length + 1)
    simp only [List.length_append, List.length_singleton]
    omega
theorem jn_mem {c : Nat} : ∀ {ws : List (List Nat)}, c ∈ jn ws → c = 32 ∨ ∃ w ∈ ws, c ∈ w
  | [], h => by cases h
  | [p], h => .inr ⟨p, by simp, h⟩
  | p :: q :: r, h => by
    have h : c ∈ p ++ ([32] ++ jn (q :: r)) := h
    rcases List.mem_append.mp h with h | h
    · exact .inr ⟨p, by simp, h⟩
    · rcases List.mem_append.mp h with h | h
      · exact .inl (List.mem_singleton.mp h)
      · rcases jn_mem h with h | ⟨w, hw, h⟩
        · exact .inl h
        · exact .inr ⟨w, List.mem_cons_of_mem _ hw, h⟩
theorem jn_S (ws : List (List Nat)) : Txt.join s_x20 (ws.map S) = S (jn ws) := by
  refine TL.ext_tl ?_
  rw [TL.join_eq, TL.tl_join, List.map_map]
  show TL.joinL [32] (ws.map (TL.tl ∘ S)) = jn ws
  congr 1
  conv => rhs; rw [← List.map_id ws]
  rfl
theorem join_D {ws : List (List Nat)} {f g : M Rv} {ρ ρ1 ρ2 : Rho} (hf : f ρ = some (.ok (.d (.str s_x20)) ρ1)) (hg : g ρ1 = some (.ok (.d (wD ws)) ρ2)) (hl : (ws.map List.length).sum + ws.length ≤ 16777216) : cJoin f g ρ = some (.ok (.d (.str (S (jn ws)))) ρ2) := by
  unfold cJoin bnd
  rw [hf]
  show bnd g (join1 (.d (.str s_x20))) ρ1 = _
  unfold bnd
  rw [hg]
  show (match strsD (ws.map fun w => PyData.str (S w)) with
    | some ss => if (ss.map (fun z : Str => z.length)).sum + ss.length * s_x20.length ≤ 16777216 then some (Er.ok (Rv.d (.str (Txt.join s_x20 ss))) ρ2) else none
    | none => none) = _
  have e : strsD (ws.map fun w => PyData.str (S w)) = some (ws.map S) := by
    have := strsD_map (ss := ws.map S)
    rw [List.map_map] at this
    exact this
  rw [e]
  show (if ((ws.map S).map (fun z : Str => z.length)).sum + (ws.map S).length * s_x20.length ≤ 16777216 then some (Er.ok (Rv.d (.str (Txt.join s_x20 (ws.map S)))) ρ2) else none) = _
  have e2 : (ws.map S).map (fun z : Str => z.length) = ws.map List.length := by
    rw [List.map_map]
    exact List.map_congr_left fun w _ => S_len w
  rw [e2, List.length_map, jn_S, if_pos (by show _ + ws.length * 1 ≤ _; omega)]
theorem wds_jn {ws : List (List Nat)} (hne : ws ≠ []) (hp : ∀ w ∈ ws, 32 ∉ w) : wds (jn ws) = ws := by
  unfold wds
  rw [← jn_S, TL.split_join (s := 32) (S := []) rfl (by decide +kernel) (fun e => hne (List.map_eq_nil_iff.mp e)) (fun p h => by
    obtain ⟨w, hw, rfl⟩ := List.mem_map.mp h
    exact hp w hw), List.map_map]
  conv => rhs; rw [← List.map_id ws]
  rfl
theorem VL_addL0 {xs ys : List PyData} (h : xs.length + ys.length ≤ 1000000) : addD (.list xs) (.list ys) = some (.list (xs ++ ys)) := by
  show (if small (xs.length + ys.length) then some (PyData.list (xs ++ ys)) else none) = _
  rw [if_pos (small_of (by omega))]
structure CT (w o p c m : Nat) (sd : List Nat) : Prop where
  w1 : w ≤ 11
  o1 : o ≤ 11
  ne : w ≠ o
  sd : sd = boL ∨ sd = soL
  p1 : p ≤ 1000000000
  c0 : 1 ≤ c
  c1 : c ≤ 1000000
  m1 : m ≤ 1000000000
noncomputable def ctD (w o p c m : Nat) (sd : List Nat) : PyData := .tuple [.int w, .int o, .str (S sd), .int p, .int c, .int m]
noncomputable def ctW (w o p c m : Nat) (sd : List Nat) : List (List Nat) := [TL.numL w, sd, TL.numL c, atL, TL.numL p, lnk sd, TL.numL o, inL, TL.numL m]
theorem ct_of {x : Crd} (h : CrdOk 12 x) : ∃ w o p c m sd, x.D = ctD w o p c m sd ∧ CT w o p c m sd := by
  obtain ⟨w, o, s, p, c, m⟩ := x
  obtain ⟨h1, h2, h3, h4, h5, h6, h7, h8, h9, h10, h11, h12⟩ := h
  simp only at h1 h2 h3 h4 h5 h6 h7 h8 h9 h10 h11 h12
  obtain ⟨w', rfl⟩ : ∃ k : Nat, w = (k : Int) := ⟨w.toNat, by omega⟩
  obtain ⟨o', rfl⟩ : ∃ k : Nat, o = (k : Int) := ⟨o.toNat, by omega⟩
  obtain ⟨p', rfl⟩ : ∃ k : Nat, p = (k : Int) := ⟨p.toNat, by omega⟩
  obtain ⟨c', rfl⟩ : ∃ k : Nat, c = (k : Int) := ⟨c.toNat, by omega⟩
  obtain ⟨m', rfl⟩ : ∃ k : Nat, m = (k : Int) := ⟨m.toNat, by omega⟩
  rcases h6 with rfl | rfl
  · exact ⟨w', o', p', c', m', boL, rfl, ⟨by omega, by omega, by omega, .inl rfl, by omega, by omega, by omega, by omega⟩⟩
  · exact ⟨w', o', p', c', m', soL, rfl, ⟨by omega, by omega, by omega, .inr rfl, by omega, by omega, by omega, by omega⟩⟩
section
variable {w o p c m : Nat} {sd : List Nat} (h : CT w o p c m sd)
include h
theorem CT.small : Tx sd ∧ sd.length ≤ 10 ∧ 32 ∉ sd ∧ Tx (lnk sd) ∧ (lnk sd).length ≤ 10 ∧ 32 ∉ lnk sd ∧ sideB sd = true := by
  rcases h.sd with rfl | rfl
  · exact ⟨tx_small rfl (by decide), by decide, by decide, tx_small rfl (by decide), by decide, by decide, rfl⟩
  · exact ⟨tx_small rfl (by decide), by decide, by decide, tx_small rfl (by decide), by decide, by decide, rfl⟩
theorem CT.all : ∀ x ∈ ctW w o p c m sd, Tx x ∧ x.length ≤ 10 ∧ 32 ∉ x := fun x hx => by
  have hw := h.w1; have ho := h.o1; have hp := h.p1; have hc := h.c1; have hm := h.m1
  have nm : ∀ n : Nat, n ≤ 1000000000 → Tx (TL.numL n) ∧ (TL.numL n).length ≤ 10 ∧ 32 ∉ TL.numL n := fun n hn => by
    obtain ⟨h1, h2⟩ := tx_num hn
    exact ⟨h1, h2, fun z => by have := TL.numL_digits n 32 z; omega⟩
  obtain ⟨s1, s2, s3, s4, s5, s6, _⟩ := h.small
  unfold ctW at hx
  simp only [List.mem_cons, List.not_mem_nil, or_false] at hx
  rcases hx with rfl | rfl | rfl | rfl | rfl | rfl | rfl | rfl | rfl
  · exact nm _ (by omega)
  · exact ⟨s1, s2, s3⟩
  · exact nm _ (by omega)
  · exact ⟨tx_small rfl (by decide), by decide, by decide⟩
  · exact nm _ (by omega)
  · exact ⟨s4, s5, s6⟩
  · exact nm _ (by omega)
  · exact ⟨tx_small rfl (by decide), by decide, by decide⟩
  · exact nm _ (by omega)
theorem CT.sum : ((ctW w o p c m sd).map List.length).sum + (ctW w o p c m sd).length ≤ 99 := by
  have a := h.all
  have l : ∀ (ws : List (List Nat)), (∀ x ∈ ws, x.length ≤ 10) → (ws.map List.length).sum ≤ 10 * ws.length := fun ws => by
    induction ws with
    | nil => intro _; simp
    | cons x xs ih =>
      intro hx
      have := ih fun y hy => hx y (List.mem_cons_of_mem _ hy)
      have := hx x List.mem_cons_self
      simp only [List.map_cons, List.sum_cons, List.length_cons]
      omega
  have := l _ fun x hx => (a x hx).2.1
  have e : (ctW w o p c m sd).length = 9 := rfl
  omega
theorem CT.tx : Tx (jn (ctW w o p c m sd)) ∧ (jn (ctW w o p c m sd)).length ≤ 100 := by
  have l := jn_len (ctW w o p c m sd)
  have s := h.sum
  refine ⟨⟨fun x hx => ?_, by omega⟩, by omega⟩
  rcases jn_mem hx with rfl | ⟨y, hy, hx⟩
  · decide
  · exact (h.all y hy).1.c x hx
theorem CT.rd : cdW (wds (jn (ctW w o p c m sd))) = ctD w o p c m sd := by
  rw [wds_jn (by unfold ctW; simp) fun x hx => (h.all x hx).2.2]
  have hw := h.w1; have ho := h.o1; have hp := h.p1; have hc := h.c1; have hm := h.m1; have hc0 := h.c0
  have e : cdD (TL.numL w) sd (TL.numL c) (TL.numL p) (TL.numL o) (TL.numL m) = ctD w o p c m sd := by
    unfold cdD
    rw [nu_num (n := w) (by omega), nu_num (n := o) (by omega), nu_num (n := p) (by omega), nu_num (n := c) (by omega), nu_num (n := m) (by omega)]
    rfl
  show (if linkB sd atL (lnk sd) inL && SP6.cardD (cdD (TL.numL w) sd (TL.numL c) (TL.numL p) (TL.numL o) (TL.numL m)) then cdD (TL.numL w) sd (TL.numL c) (TL.numL p) (TL.numL o) (TL.numL m) else .none) = _
  rw [e]
  have l1 : linkB sd atL (lnk sd) inL = true := by
    unfold linkB
    rw [h.small.2.2.2.2.2.2]
    simp
  have l2 : SP6.cardD (ctD w o p c m sd) = true := by
    unfold ctD SP6.cardD SP6.inR
    have ne := h.ne
    have q1 : SP6.sideB (.str (S sd)) = true := by
      rcases h.sd with rfl | rfl <;> decide +kernel
    simp only [PyData.eqv, q1]
    simp
    omega
  rw [l1, l2]
  rfl
theorem CT.prog : ∃ r, F_card_text [.val (ctD w o p c m sd)] = some (.ret (.dat (.str (S (jn (ctW w o p c m sd))))), r) := by
  have hw := h.w1; have ho := h.o1; have hp := h.p1; have hc := h.c1; have hm := h.m1
  obtain ⟨s1, _, _, _, _, _, sB⟩ := h.small
  have t1 := str_num (n := w) (by omega)
  have t2 := str_num (n := o) (by omega)
  have t3 := str_num (n := p) (by omega)
  have t4 := str_num (n := c) (by omega)
  have t5 := str_num (n := m) (by omega)
  have a1 : sAsg (VL.gT 6 (gsC (gN 1) (gsC (gN 2) (gsC (gN 3) (gsC (gN 4) (gsC (gN 5) (gsC (gN 6) gsN))))))) (cVar 0) [.val (ctD w o p c m sd), .no, .no, .no, .no, .no, .no, .no] = some (.nx [.val (ctD w o p c m sd), .val (.int w), .val (.int o), .val (.str (S sd)), .val (.int p), .val (.int c), .val (.int m), .no]) := r_asg (r_var rfl) rfl
  have ct : cTab tb_LINKS (cVar 3) [.val (ctD w o p c m sd), .val (.int w), .val (.int o), .val (.str (S sd)), .val (.int p), .val (.int c), .val (.int m), .no] = some (.ok (.d (.str (S (lnk sd)))) [.val (ctD w o p c m sd), .val (.int w), .val (.int o), .val (.str (S sd)), .val (.int p), .val (.int c), .val (.int m), .no]) := r_tab (r_var rfl) (links_in.2 sB)
  have td : Tr.toD (.lst [.dat (.str (S (TL.numL w))), .dat (.str (S sd)), .dat (.str (S (TL.numL c))), .dat (.str s_at), .dat (.str (S (TL.numL p))), .dat (.str (S (lnk sd))), .dat (.str (S (TL.numL o))), .dat (.str sIn), .dat (.str (S (TL.numL m)))]) = some (wD (ctW w o p c m sd)) := rfl
  have a2 : sSet 7 (cFrz (nLst (aCons (cCall strD (aCons (cVar 1) aNil)) (aCons (cVar 3) (aCons (cCall strD (aCons (cVar 5) aNil)) (aCons (cD (.str s_at)) (aCons (cCall strD (aCons (cVar 4) aNil)) (aCons (cTab tb_LINKS (cVar 3)) (aCons (cCall strD (aCons (cVar 2) aNil)) (aCons (cD (.str sIn)) (aCons (cCall strD (aCons (cVar 6) aNil)) aNil))))))))))) [.val (ctD w o p c m sd), .val (.int w), .val (.int o), .val (.str (S sd)), .val (.int p), .val (.int c), .val (.int m), .no] = some (.nx [.val (ctD w o p c m sd), .val (.int w), .val (.int o), .val (.str (S sd)), .val (.int p), .val (.int c), .val (.int m), .val (wD (ctW w o p c m sd))]) := by
    generalize wD (ctW w o p c m sd) = X at td ⊢
    generalize ctD w o p c m sd = X0 at ct ⊢
    generalize cTab tb_LINKS (cVar 3) = fT at ct ⊢
    generalize PyData.str (S (lnk sd)) = BL at ct td
    generalize PyData.str (S sd) = B3 at ct td ⊢
    generalize PyData.str (S (TL.numL w)) = T1 at t1 td
    generalize PyData.str (S (TL.numL o)) = T2 at t2 td
    generalize PyData.str (S (TL.numL p)) = T3 at t3 td
    generalize PyData.str (S (TL.numL c)) = T4 at t4 td
    generalize PyData.str (S (TL.numL m)) = T5 at t5 td
    generalize PyData.int (w : Nat) = I1 at t1 ct ⊢
    generalize PyData.int (o : Nat) = I2 at t2 ct ⊢
    generalize PyData.int (p : Nat) = I3 at t3 ct ⊢
    generalize PyData.int (c : Nat) = I4 at t4 ct ⊢
    generalize PyData.int (m : Nat) = I5 at t5 ct ⊢
    simp! only [setSl, List.replicate, pinS, Md.unb, VR.ap_fld1, VR.ap_pFld, VR.ap_pKey, VR.ap_keyT1, ct, t1, t2, t3, t4, t5, td]
  have s := h.sum
  have j := join_D (ws := ctW w o p c m sd) (f := cD (.str s_x20)) (g := cVar 7) (ρ := [.val (ctD w o p c m sd), .val (.int w), .val (.int o), .val (.str (S sd)), .val (.int p), .val (.int c), .val (.int m), .val (wD (ctW w o p c m sd))]) rfl (r_var rfl) (by omega)
  refine ⟨_, run_rt (n := 8) (ρ' := [.val (ctD w o p c m sd), .val (.int w), .val (.int o), .val (.str (S sd)), .val (.int p), .val (.int c), .val (.int m), .val (wD (ctW w o p c m sd))]) (g := g_card_text) (args := [.val (ctD w o p c m sd)]) ?_⟩
  show g_card_text [.val (ctD w o p c m sd), .no, .no, .no, .no, .no, .no, .no] = _
  unfold g_card_text
  rw [seq_nx a1, seq_nx a2]
  generalize cJoin (cD (.str s_x20)) (cVar 7) = ff at j ⊢
  simp! only [setSl, List.replicate, pinS, Md.unb, VR.ap_fld1, VR.ap_pFld, VR.ap_pKey, VR.ap_keyT1, j]
theorem CT.law : ∃ r, F__law_card_text [.val (ctD w o p c m sd)] = some (.ret (.dat (.str (S (jn (ctW w o p c m sd))))), r) := by
  have hw := h.w1; have ho := h.o1; have hp := h.p1; have hc := h.c1; have hm := h.m1
  obtain ⟨s1, _, _, _, _, _, sB⟩ := h.small
  have t1 := str_num (n := w) (by omega)
  have t2 := str_num (n := o) (by omega)
  have t3 := str_num (n := p) (by omega)
  have t4 := str_num (n := c) (by omega)
  have t5 := str_num (n := m) (by omega)
  have a1 : sAsg (VL.gT 6 (gsC (gN 1) (gsC (gN 2) (gsC (gN 3) (gsC (gN 4) (gsC (gN 5) (gsC (gN 6) gsN))))))) (cVar 0) [.val (ctD w o p c m sd), .no, .no, .no, .no, .no, .no, .no] = some (.nx [.val (ctD w o p c m sd), .val (.int w), .val (.int o), .val (.str (S sd)), .val (.int p), .val (.int c), .val (.int m), .no]) := r_asg (r_var rfl) rfl
  have qs : eqD (.str (S sd)) (.str sSold) = some (decide (sd = soL)) := eq_S s1 (tx_small (l := soL) rfl (by decide))
  have ib : intD [.bool (decide (sd = soL))] = some (.int (if decide (sd = soL) then 1 else 0)) := rfl
  have tl2 : Tr.toD (.lst [.dat (.str s_from), .dat (.str s_to)]) = some (.list [.str s_from, .str s_to]) := rfl
  have sb : subD (.list [.str s_from, .str s_to]) (.int (if decide (sd = soL) then 1 else 0)) = some (.str (S (lnk sd))) := by
    unfold lnk
    by_cases z : sd = soL <;> simp [z] <;> rfl
  have td : Tr.toD (.lst [.dat (.str (S (TL.numL w))), .dat (.str (S sd)), .dat (.str (S (TL.numL c))), .dat (.str s_at), .dat (.str (S (TL.numL p))), .dat (.str (S (lnk sd)))]) = some (wD [TL.numL w, sd, TL.numL c, atL, TL.numL p, lnk sd]) := rfl
  have td2 : Tr.toD (.lst [.dat (.str (S (TL.numL o))), .dat (.str sIn), .dat (.str (S (TL.numL m)))]) = some (wD [TL.numL o, inL, TL.numL m]) := rfl
  have ad : addD (wD [TL.numL w, sd, TL.numL c, atL, TL.numL p, lnk sd]) (wD [TL.numL o, inL, TL.numL m]) = some (wD (ctW w o p c m sd)) := VL_addL0 (by simp)
  have a2 : sSet 7 (cFrz (nLst (aCons (cCall strD (aCons (cVar 1) aNil)) (aCons (cVar 3) (aCons (cCall strD (aCons (cVar 5) aNil)) (aCons (cD (.str s_at)) (aCons (cCall strD (aCons (cVar 4) aNil)) (aCons (cBin subD (cFrz (nLst (aCons (cD (.str s_from)) (aCons (cD (.str s_to)) aNil)))) (cCall intD (aCons (cOf (cCmp eqD (cVar 3) (cD (.str sSold)))) aNil))) aNil)))))))) [.val (ctD w o p c m sd), .val (.int w), .val (.int o), .val (.str (S sd)), .val (.int p), .val (.int c), .val (.int m), .no] = some (.nx [.val (ctD w o p c m sd), .val (.int w), .val (.int o), .val (.str (S sd)), .val (.int p), .val (.int c), .val (.int m), .val (wD [TL.numL w, sd, TL.numL c, atL, TL.numL p, lnk sd])]) := by
    generalize wD [TL.numL w, sd, TL.numL c, atL, TL.numL p, lnk sd] = X at td ⊢
    generalize ctD w o p c m sd = X0
    generalize PyData.str (S (lnk sd)) = BL at sb td
    generalize PyData.int (if decide (sd = soL) then 1 else 0) = J at ib sb
    generalize decide (sd = soL) = jb at qs ib
    generalize PyData.str (S sd) = B3 at qs td ⊢
    generalize PyData.str (S (TL.numL w)) = T1 at t1 td
    generalize PyData.str (S (TL.numL o)) = T2 at t2
    generalize PyData.str (S (TL.numL p)) = T3 at t3 td
    generalize PyData.str (S (TL.numL c)) = T4 at t4 td
    generalize PyData.str (S (TL.numL m)) = T5 at t5
    generalize PyData.int (w : Nat) = I1 at t1 ⊢
    generalize PyData.int (o : Nat) = I2 at t2 ⊢
    generalize PyData.int (p : Nat) = I3 at t3 ⊢
    generalize PyData.int (c : Nat) = I4 at t4 ⊢
    generalize PyData.int (m : Nat) = I5 at t5 ⊢
    simp! only [setSl, List.replicate, pinS, Md.unb, VR.ap_fld1, VR.ap_pFld, VR.ap_pKey, VR.ap_keyT1, t1, t2, t3, t4, t5, qs, ib, tl2, sb, td]
  have s := h.sum
  have g9 : cBin addD (cVar 7) (cFrz (nLst (aCons (cCall strD (aCons (cVar 2) aNil)) (aCons (cD (.str sIn)) (aCons (cCall strD (aCons (cVar 6) aNil)) aNil))))) [.val (ctD w o p c m sd), .val (.int w), .val (.int o), .val (.str (S sd)), .val (.int p), .val (.int c), .val (.int m), .val (wD [TL.numL w, sd, TL.numL c, atL, TL.numL p, lnk sd])] = some (.ok (.d (wD (ctW w o p c m sd))) [.val (ctD w o p c m sd), .val (.int w), .val (.int o), .val (.str (S sd)), .val (.int p), .val (.int c), .val (.int m), .val (wD [TL.numL w, sd, TL.numL c, atL, TL.numL p, lnk sd])]) := by
    generalize wD [TL.numL w, sd, TL.numL c, atL, TL.numL p, lnk sd] = X at ad ⊢
    generalize wD [TL.numL o, inL, TL.numL m] = X2 at td2 ad
    generalize wD (ctW w o p c m sd) = X3 at ad ⊢
    generalize ctD w o p c m sd = X0
    generalize PyData.str (S sd) = B3
    generalize PyData.str (S (TL.numL o)) = T2 at t2 td2
    generalize PyData.str (S (TL.numL m)) = T5 at t5 td2
    generalize PyData.int (w : Nat) = I1
    generalize PyData.int (o : Nat) = I2 at t2 ⊢
    generalize PyData.int (p : Nat) = I3
    generalize PyData.int (c : Nat) = I4
    generalize PyData.int (m : Nat) = I5 at t5 ⊢
    simp! only [setSl, List.replicate, pinS, Md.unb, VR.ap_fld1, VR.ap_pFld, VR.ap_pKey, VR.ap_keyT1, t2, t5, td2, ad]
  have j := join_D (ws := ctW w o p c m sd) (f := cD (.str s_x20)) (ρ := [.val (ctD w o p c m sd), .val (.int w), .val (.int o), .val (.str (S sd)), .val (.int p), .val (.int c), .val (.int m), .val (wD [TL.numL w, sd, TL.numL c, atL, TL.numL p, lnk sd])]) rfl g9 (by omega)
  refine ⟨_, run_rt (n := 8) (ρ' := [.val (ctD w o p c m sd), .val (.int w), .val (.int o), .val (.str (S sd)), .val (.int p), .val (.int c), .val (.int m), .val (wD [TL.numL w, sd, TL.numL c, atL, TL.numL p, lnk sd])]) (g := g__law_card_text) (args := [.val (ctD w o p c m sd)]) ?_⟩
  show g__law_card_text [.val (ctD w o p c m sd), .no, .no, .no, .no, .no, .no, .no] = _
  unfold g__law_card_text
  rw [seq_nx a1, seq_nx a2]
  generalize cJoin (cD (.str s_x20)) (cBin addD (cVar 7) (cFrz (nLst (aCons (cCall strD (aCons (cVar 2) aNil)) (aCons (cD (.str sIn)) (aCons (cCall strD (aCons (cVar 6) aNil)) aNil)))))) = ff at j ⊢
  simp! only [setSl, List.replicate, pinS, Md.unb, VR.ap_fld1, VR.ap_pFld, VR.ap_pKey, VR.ap_keyT1, j]
end
end K24

end

section
set_option Elab.async false
set_option linter.all false
set_option maxRecDepth 100000
namespace VL
open PySem PySem.Spec PyProof.Rows L2
section
variable {X : Cx} {T T1 T2 T3 T4 T5 : List Nat} {W : WV} {K : Fg}
variable {fa fb : M Rv} {a b : Expr} {pos : Pos}
end
section
variable {X : Cx} {T T1 T2 T3 T4 T5 : List Nat} {W : WV} {K : Fg} {o i e : Expr} {pos tpos : Pos} {fp1 : M (Nat × List Nat)} {fi fe : M Rv}
end
section
variable {X : Cx} {T : List Nat} {W : WV} {K : Fg} {pos p : Pos} {e : Expr} {fs : M (List Rv)}
end
end VL

end

section
set_option Elab.async false
set_option linter.all false
set_option maxRecDepth 100000
namespace SXD
open PySem PySem.Spec PyProof.Rows L2 VL SM SN
end SXD

end

section
set_option Elab.async false
set_option linter.all false
namespace DV
noncomputable def Part (L : List Int) (D : Nat) : Prop := ∃ gs : List (List Int), gs.length = D ∧ gs.flatten.Perm L ∧ ∀ g ∈ gs, g ≠ [] ∧ g.sum = 0
theorem Part.map {f : Int → Int} {L : List Int} {D : Nat} (h0 : ∀ g : List Int, (∀ x ∈ g, x ∈ L) → g.sum = 0 → (g.map f).sum = 0) (h : Part L D) : Part (L.map f) D := by
  obtain ⟨gs, a, b, c⟩ := h
  refine ⟨gs.map (·.map f), by rw [List.length_map, a], ?_, fun g hg => ?_⟩
  · rw [← List.map_flatten]
    exact b.map f
  · obtain ⟨g', h1, rfl⟩ := List.mem_map.mp hg
    obtain ⟨h2, h3⟩ := c g' h1
    exact ⟨by simpa using h2, h0 g' (fun x hx => b.mem_iff.mp (List.mem_flatten.mpr ⟨g', h1, hx⟩)) h3⟩
noncomputable def bit (S k : Nat) : Nat := S / 2 ^ k % 2
noncomputable def sumS : List Int → Nat → Int
  | [], _ => 0
  | x :: xs, S => (if S % 2 = 1 then x else 0) + sumS xs (S / 2)
noncomputable def sumP (N : List Int) (l : List Nat) : Int := (l.map fun k => N[k]?.getD 0).sum
noncomputable def zS (N : List Int) (S : Nat) : Nat := if sumS N S = 0 then 1 else 0
structure Best (N : List Int) (best : Nat → Nat) : Prop where
  zero : best 0 = 0
  some : ∀ S, 0 < S → S < 2 ^ N.length → ∃ k, k < N.length ∧ bit S k = 1 ∧ best S = best (S - 2 ^ k) + zS N S
  all : ∀ S, 0 < S → S < 2 ^ N.length → ∀ k, k < N.length → bit S k = 1 → best (S - 2 ^ k) + zS N S ≤ best S
section
variable {N : List Int} {best : Nat → Nat} (b : Best N best)
include b
end
structure GI (N : List Int) (best : Nat → Nat) (S : Nat) (G : List (List Nat)) : Prop where
  lt : S < 2 ^ N.length
  nd : G.flatten.Nodup
  inn : ∀ k ∈ G.flatten, k < N.length
  mem : ∀ k, k < N.length → (bit S k = 1 ↔ k ∉ G.flatten)
  ct : G.length + best S = best (2 ^ N.length - 1)
  grp : (G = [] ∧ sumS N S = 0) ∨ ∃ G' g, G = G' ++ [g] ∧ g ≠ [] ∧ (∀ h ∈ G', h ≠ [] ∧ sumP N h = 0) ∧ sumP N g + sumS N S = 0
structure GE (N : List Int) (B : Nat) (G : List (List Nat)) : Prop where
  ct : G.length = B
  nd : G.flatten.Nodup
  mem : ∀ k, k ∈ G.flatten ↔ k < N.length
  grp : ∀ g ∈ G, g ≠ [] ∧ sumP N g = 0
end DV

end

section
set_option Elab.async false
set_option linter.all false
set_option maxRecDepth 100000
set_option maxHeartbeats 2000000
namespace DQ
open PySem PySem.Spec PyProof.Rows L2 VL SM SP SH SXD
noncomputable abbrev iD (xs : List Int) : PyData := .list (xs.map .int)
theorem addI {xs ys : List Int} (h : xs.length + ys.length ≤ 1000000) : addD (iD xs) (iD ys) = some (iD (xs ++ ys)) := by
  show (if small ((xs.map PyData.int).length + (ys.map PyData.int).length) then some (PyData.list (xs.map PyData.int ++ ys.map PyData.int)) else none) = _
  rw [if_pos (small_of (by simp; omega)), ← List.map_append]
noncomputable def bS (B : List Nat) (S : Nat) : Nat := B[S]?.getD 0
structure Upto (N : List Int) (B : List Nat) (m : Nat) : Prop where
  zero : bS B 0 = 0
  some : ∀ S, 0 < S → S < m → ∃ k, k < N.length ∧ DV.bit S k = 1 ∧ bS B S = bS B (S - 2 ^ k) + DV.zS N S
  all : ∀ S, 0 < S → S < m → ∀ k, k < N.length → DV.bit S k = 1 → bS B (S - 2 ^ k) + DV.zS N S ≤ bS B S
end DQ

end

section
set_option Elab.async false
set_option linter.all false
namespace MT
variable {α : Type} [DecidableEq α]
noncomputable abbrev Mt (α : Type) := α → Option α
section
variable {near : α → List α} {U : List α}
structure Sn (U sn sn' : List α) : Prop where
  nd : sn'.Nodup
  sub : ∀ x ∈ sn', x ∈ U
  inc : ∀ x ∈ sn, x ∈ sn'
structure Fa (near : α → List α) (M : Mt α) (l sn : List α) (M' : Mt α) (sn' : List α) : Prop where
  e : M' = M
  inc : ∀ x ∈ sn, x ∈ sn'
  nr : ∀ x ∈ l, x ∈ sn'
  cl : ∀ o ∈ sn', o ∉ sn → ∃ e, M o = some e ∧ ∀ x ∈ near e, x ∈ sn'
structure Mok (near : α → List α) (M : Mt α) : Prop where
  inj : ∀ o o' e, M o = some e → M o' = some e → o = o'
  adj : ∀ o e, M o = some e → o ∈ near e
structure Tu (near : α → List α) (M : Mt α) (s : α) (sn : List α) (M' : Mt α) : Prop where
  old : ∀ o ∈ sn, M' o = M o
  adj : ∀ o e, M' o = some e → o ∈ near e
  dom : ∃ p, p ∉ sn ∧ M p = none ∧ (∃ e, M' p = some e) ∧ ∀ o, o ≠ p → (M' o).isSome = (M o).isSome
  rng : ∀ e, (∃ o, o ∉ sn ∧ M' o = some e) ↔ e = s ∨ ∃ o, o ∉ sn ∧ M o = some e
  inj : ∀ o o' e, o ∉ sn → o' ∉ sn → M' o = some e → M' o' = some e → o = o'
end
end MT

end

section
set_option Elab.async false
set_option linter.all false
set_option maxRecDepth 100000
set_option maxHeartbeats 2000000
namespace DQ
open PySem PySem.Spec PyProof.Rows L2 VL SM SP SH SXD
section
variable {N : List Int} {B : List Nat} {S : Nat} {G : List (List Nat)} {v6 v7 : Sl}
end
end DQ

end

section
set_option Elab.async false
set_option linter.all false
set_option maxRecDepth 100000
set_option maxHeartbeats 2000000
namespace DQ
open PySem PySem.Spec PyProof.Rows L2 VL SM SP SH SXD
section
variable {κ : Type} [DecidableEq κ]
end
noncomputable abbrev QL := List (Key × PyData)
section
variable {d0 d1 : PyData} {Q : QL} {xs ys : List Nat} {R : List (Nat × Nat × Int)} {v7 v8 v9 : Sl} {x y : Nat} {a b c : Int}
end
end DQ

end

section
set_option Elab.async false
set_option linter.all false
set_option maxRecDepth 100000
set_option maxHeartbeats 2000000
namespace SH
open PySem PySem.Spec PyProof.Rows L2 VL SM SP DQ
section
variable {i : Nat} {ρ : Rho}
end
section
variable {κ : Type} [DecidableEq κ]
end
end SH

end

section
set_option Elab.async false
set_option linter.all false
set_option maxRecDepth 100000
set_option maxHeartbeats 4000000
namespace K24
open PySem PySem.Spec PyProof.Rows L2 VL SM SN SP SH
noncomputable def Ch (l : List Nat) : Prop := ∀ c ∈ l, c < 128
theorem Ch.app {a b : List Nat} (ha : Ch a) (hb : Ch b) : Ch (a ++ b) := fun c hc => (List.mem_append.mp hc).elim (ha c) (hb c)
noncomputable def M1 (ws : List (List Nat)) : Nat := (ws.map List.length).sum + ws.length
theorem M_app {us vs : List (List Nat)} : M1 (us ++ vs) = M1 us + M1 vs := by
  unfold M1
  rw [List.map_append, List.sum_append, List.length_append]
  omega
theorem M_cons {w : List Nat} {ws : List (List Nat)} : M1 (w :: ws) = w.length + 1 + M1 ws := by
  unfold M1
  rw [List.map_cons, List.sum_cons, List.length_cons]
  omega
theorem M_take {ws : List (List Nat)} : ∀ {n : Nat}, M1 (ws.take n) ≤ M1 ws := by
  induction ws with
  | nil => intro n; rw [List.take_nil]; exact Nat.le_refl _
  | cons w ws ih =>
    intro n
    cases n with
    | zero => exact Nat.zero_le _
    | succ n =>
      rw [List.take_succ_cons, M_cons, M_cons]
      have := ih (n := n)
      omega
theorem M_drop {ws : List (List Nat)} : ∀ {n : Nat}, M1 (ws.drop n) ≤ M1 ws := by
  induction ws with
  | nil => intro n; rw [List.drop_nil]; exact Nat.le_refl _
  | cons w ws ih =>
    intro n
    cases n with
    | zero => exact Nat.le_refl _
    | succ n =>
      rw [List.drop_succ_cons, M_cons]
      have := ih (n := n)
      omega
theorem M_mem {w : List Nat} : ∀ {ws : List (List Nat)}, w ∈ ws → M1 [w] ≤ M1 ws
  | [], h => by cases h
  | x :: xs, h => by
    rw [M_cons]
    rcases List.mem_cons.mp h with rfl | h
    · rw [M_cons]
      have : M1 ([] : List (List Nat)) = 0 := rfl
      omega
    · have := M_mem h
      rw [M_cons] at this ⊢
      omega
theorem jn_len_eq : ∀ {ws : List (List Nat)}, ws ≠ [] → (jn ws).length + 1 = M1 ws
  | [], h => absurd rfl h
  | [p], _ => by
    rw [M_cons]
    rfl
  | p :: q :: r, _ => by
    have := jn_len_eq (ws := q :: r) (by simp)
    rw [M_cons, ← this]
    show (p ++ ([32] ++ jn (q :: r))).length + 1 = _
    simp only [List.length_append, List.length_singleton]
    omega
theorem jn_wds (a : List Nat) : jn (wds a) = a := by
  have j := StrLaws.join_split (S a) s_x20
  have j2 := congrArg TL.tl j
  rw [TL.tl_join] at j2
  exact j2
theorem wds_ne (a : List Nat) : wds a ≠ [] := fun z => by
  have h := jn_wds a
  rw [z] at h
  have h : a = [] := h.symm
  subst h
  have : wds [] = [[]] := by decide +kernel
  rw [this] at z
  cases z
theorem M_wds (a : List Nat) : M1 (wds a) = a.length + 1 := by
  have := jn_len_eq (wds_ne a)
  rw [jn_wds] at this
  exact this.symm
theorem cut_any {a : List Nat} (h : a.length ≤ 100000) (x y : Option Int) : ∃ l, cutD (.str (S a)) x y = some (.str (S l)) ∧ (∀ c ∈ l, c ∈ a) ∧ l.length ≤ a.length := by
  refine ⟨(a.drop (HT.sIx (S a).length 0 x)).take (HT.sIx (S a).length (S a).length y - HT.sIx (S a).length 0 x), ?_, fun c hc => List.mem_of_mem_drop (List.mem_of_mem_take hc), by rw [List.length_take, List.length_drop]; omega⟩
  show (if small (S a).length then some (PyData.str (cutS (S a) x y)) else none) = _
  rw [if_pos (small_of (by rw [S_len]; omega))]
  rfl
theorem cat_S {a b : List Nat} (ha : a.length ≤ 1000000) (hb : b.length ≤ 1000000) : addD (.str (S a)) (.str (S b)) = some (.str (S (a ++ b))) := by
  show (if small ((S a).length + (S b).length) then some (PyData.str (S a ++ S b)) else none) = _
  rw [if_pos (small_of (by rw [S_len, S_len]; omega)), show S a ++ S b = S (a ++ b) from SX.S_cat a b]
theorem cut_W (ws : List (List Nat)) (x y : Option Int) : ∃ vs, cutD (wD ws) x y = some (wD vs) ∧ (∀ w ∈ vs, w ∈ ws) ∧ M1 vs ≤ M1 ws := by
  refine ⟨cutL ws x y, ?_, fun w hw => List.mem_of_mem_drop (List.mem_of_mem_take hw), Nat.le_trans M_take M_drop⟩
  show some (PyData.list (cutL (ws.map fun w => PyData.str (S w)) x y)) = some (.list ((cutL ws x y).map fun w => PyData.str (S w)))
  unfold cutL
  rw [List.length_map, ← List.map_drop, ← List.map_take]
theorem M_len {ws : List (List Nat)} : ws.length ≤ M1 ws := by unfold M1; omega
theorem cat_W {us vs : List (List Nat)} (h : M1 us + M1 vs ≤ 1000000) : addD (wD us) (wD vs) = some (wD (us ++ vs)) := by
  have h1 := M_len (ws := us)
  have h2 := M_len (ws := vs)
  show addD (.list (us.map fun w => PyData.str (S w))) (.list (vs.map fun w => PyData.str (S w))) = some (.list ((us ++ vs).map fun w => PyData.str (S w)))
  rw [List.map_append]
  exact VL_addL0 (by rw [List.length_map, List.length_map]; omega)
theorem rev_S {f : M Rv} {ρ ρ1 : Rho} {a : List Nat} (hf : f ρ = some (.ok (.d (.str (S a))) ρ1)) (h : a.length ≤ 100000) : cRevS f ρ = some (.ok (.d (.str (S a.reverse))) ρ1) := by
  unfold cRevS bnd
  rw [hf]
  show (if (S a).length ≤ sizeLine then some (Er.ok (Rv.d (.str (revS (S a)))) ρ1) else none) = _
  rw [if_pos (by rw [S_len, sizeLine_eq]; omega)]
  rfl
theorem ix_any {a : List Nat} {v : Int} (h : a.length ≤ 100000) (h0 : 0 ≤ v) (h1 : v < a.length) : ∃ c ∈ a, subD (.str (S a)) (.int v) = some (.str (S [c])) := by
  obtain ⟨n, rfl⟩ : ∃ n : Nat, v = n := ⟨v.toNat, by omega⟩
  have hn : n < a.length := by omega
  exact ⟨a[n], List.getElem_mem hn, ix_S h (List.getElem?_eq_getElem hn)⟩
theorem ix_W {ws : List (List Nat)} {v : Int} (h0 : 0 ≤ v) (h1 : v < ws.length) : ∃ w ∈ ws, subD (wD ws) (.int v) = some (.str (S w)) := by
  obtain ⟨n, rfl⟩ : ∃ n : Nat, v = n := ⟨v.toNat, by omega⟩
  have hn : n < ws.length := by omega
  refine ⟨ws[n], List.getElem_mem hn, ?_⟩
  show atI (ws.map fun w => PyData.str (S w)) (n : Int) = _
  rw [atI_cast (by rw [List.length_map]; omega), List.getElem?_map, List.getElem?_eq_getElem hn]
  rfl
noncomputable def moreL : List (List Nat) := [[48], [53], [98], [115], [120], [99], [119], toL, frL, [32]]
noncomputable abbrev moreD : PyData := wD moreL
noncomputable abbrev sigS : Str := s_x2021222324262728292a2b2c2d2e2f303132333435363738393a3b3c3d3e3f404142434445464748494a4b4c4d4e4f505152535455565758595a5b5c5d5e5f606162636465666768696a6b6c6d6e6f707172737475767778797a7b7c7d7e0a
theorem sig_ok : (sigS.cps.toList.all (· < 128)) = true := by decide +kernel
theorem more_ok : (moreL.all fun w => w.all (· < 128) && decide (w.length ≤ 4)) = true := by decide +kernel
section
variable {b : Bag} {a : List Nat}
noncomputable abbrev bE (b : Bag) (a : List Nat) (v3 v4 v5 v6 v7 v8 : Sl) : Rho := [.own .pin (bgT b), .val (.str (S a)), .val moreD, v3, v4, v5, v6, v7, v8]
theorem bent_4 {v5 v6 v7 v8 : Sl} (hb : BgOk b) : ∃ nw b', BgOk b' ∧ Ch nw ∧ nw.length ≤ 4 ∧ sSet 4 (cBin subD (cFrz (nLst (aCons (cBin subD (cVar 3) (cFrz (nCall [0] 2 fTake (aCons (cVar 0) (aCons (cCall lenD (aCons (cVar 3) aNil)) aNil))))) (aCons (cBin subD (cVar 2) (cFrz (nCall [0] 2 fTake (aCons (cVar 0) (aCons (cCall lenD (aCons (cVar 2) aNil)) aNil))))) aNil)))) (cFrz (nCall [0] 2 fTake (aCons (cVar 0) (aCons (cD (.int 2)) aNil))))) (bE b a (.val (.str sigS)) .no v5 v6 v7 v8) = some (.nx (bE b' a (.val (.str sigS)) (.val (.str (S nw))) v5 v6 v7 v8)) := by
  obtain ⟨k1, b1, hb1, k10, k11, tk1⟩ := e_tk hb (n := 95) (by decide) (by decide)
  obtain ⟨k2, b2, hb2, k20, k21, tk2⟩ := e_tk hb1 (n := 10) (by decide) (by decide)
  obtain ⟨k3, b3, hb3, k30, k31, tk3⟩ := e_tk hb2 (n := 2) (by decide) (by decide)
  obtain ⟨c, hc, s1⟩ := ix_any (a := sigS.cps.toList) (v := k1) (by decide) k10 k11
  obtain ⟨w, hw, s2⟩ := ix_W (ws := moreL) (v := k2) k20 k21
  have s1 : subD (.str sigS) (.int k1) = some (.str (S [c])) := s1
  have s2 : subD moreD (.int k2) = some (.str (S w)) := s2
  have c1 : c < 128 := of_decide_eq_true (List.all_eq_true.mp sig_ok c hc)
  have w1 := List.all_eq_true.mp more_ok w hw
  rw [Bool.and_eq_true, decide_eq_true_eq] at w1
  have l1 : lenD [.str sigS] = some (.int 95) := len_S (a := sigS.cps.toList) (by decide)
  have l2 : lenD [moreD] = some (.int 10) := rfl
  have td : Tr.toD (.lst [.dat (.str (S [c])), .dat (.str (S w))]) = some (.list [.str (S [c]), .str (S w)]) := rfl
  obtain ⟨nw, hn, hl, s3⟩ : ∃ nw, Ch nw ∧ nw.length ≤ 4 ∧ subD (.list [.str (S [c]), .str (S w)]) (.int k3) = some (.str (S nw)) := by
    have : k3 = 0 ∨ k3 = 1 := by omega
    rcases this with rfl | rfl
    · exact ⟨[c], fun x hx => by rw [List.mem_singleton.mp hx]; exact c1, by simp, rfl⟩
    · exact ⟨w, fun x hx => of_decide_eq_true (List.all_eq_true.mp w1.1 x hx), w1.2, rfl⟩
  refine ⟨nw, b3, hb3, hn, hl, ?_⟩
  unfold bE
  generalize PyData.list [.str (S [c]), .str (S w)] = L2 at td s3
  generalize PyData.str (S [c]) = Z1 at s1 td
  generalize PyData.str (S w) = Z2 at s2 td
  generalize PyData.str (S nw) = Z3 at s3 ⊢
  generalize PyData.str (S a) = A
  generalize PyData.str sigS = G at s1 l1 ⊢
  generalize moreD = D at s2 l2 ⊢
  simp! only [setSl, List.replicate, pinS, Md.unb, VR.ap_fld1, VR.ap_pFld, VR.ap_pKey, VR.ap_keyT1, cv_bg, l1, l2, tk1, tk2, tk3, s1, s2, s3, td]
theorem bent_5 {v3 v4 v6 v7 v8 : Sl} (hb : BgOk b) (h : a.length ≤ 100000) : ∃ k b', BgOk b' ∧ sSet 5 (cFrz (nCall [0] 2 fTake (aCons (cVar 0) (aCons (cBin addD (cCall lenD (aCons (cVar 1) aNil)) (cD (.int 1))) aNil)))) (bE b a v3 v4 .no v6 v7 v8) = some (.nx (bE b' a v3 v4 (.val (.int k)) v6 v7 v8)) := by
  obtain ⟨k1, b1, hb1, k10, k11, tk1⟩ := e_tk hb (n := (a.length : Nat) + 1) (by omega) (by omega)
  have ln := len_S h
  have ad : addD (.int (a.length : Nat)) (.int 1) = some (.int ((a.length : Nat) + 1)) := rfl
  refine ⟨k1, b1, hb1, ?_⟩
  unfold bE
  generalize PyData.str (S a) = A at ln ⊢
  generalize moreD = D
  generalize PyData.int (((a.length : Nat) : Int) + 1) = N at ad tk1
  generalize PyData.int ((a.length : Nat) : Int) = N0 at ad ln
  simp! only [setSl, List.replicate, pinS, Md.unb, VR.ap_fld1, VR.ap_pFld, VR.ap_pKey, VR.ap_keyT1, cv_bg, ln, ad, tk1]
theorem bent_6 {v3 v4 v5 v7 v8 : Sl} (hb : BgOk b) : ∃ k b', BgOk b' ∧ 0 ≤ k ∧ k < 8 ∧ sSet 6 (cFrz (nCall [0] 2 fTake (aCons (cVar 0) (aCons (cD (.int 8)) aNil)))) (bE b a v3 v4 v5 .no v7 v8) = some (.nx (bE b' a v3 v4 v5 (.val (.int k)) v7 v8)) := by
  obtain ⟨k1, b1, hb1, k10, k11, tk1⟩ := e_tk hb (n := 8) (by omega) (by omega)
  refine ⟨k1, b1, hb1, k10, k11, ?_⟩
  unfold bE
  generalize PyData.str (S a) = A
  generalize moreD = D
  simp! only [setSl, List.replicate, pinS, Md.unb, VR.ap_fld1, VR.ap_pFld, VR.ap_pKey, VR.ap_keyT1, cv_bg, tk1]
theorem bent_9 {v3 v4 : Sl} {k v6 : Int} (hb : BgOk b) (h : Tx a) (hl : a.length ≤ 20000) (h5 : 5 ≤ v6) (h8 : v6 < 8) : ∃ ws k' pw b', BgOk b' ∧ Ch (jn ws) ∧ (jn ws).length ≤ 5 * a.length + 20 ∧
    (sSeq (sSet 7 (cSplit (cVar 1) (cD (.str s_x20))))
  (sSeq (sSet 5 (cFrz (nCall [0] 2 fTake (aCons (cVar 0) (aCons (cCall lenD (aCons (cVar 7) aNil)) aNil)))))
  (sSeq (sSet 8 (cBin subD (cFrz (nLst (aCons (cFrz (nLst aNil)) (aCons (cBin repD (cFrz (nLst (aCons (cBin subD (cVar 7) (cVar 5)) aNil))) (cD (.int 2))) (aCons (cFrz (nLst (aCons (cBin subD (cVar 7) (cFrz (nCall [0] 2 fTake (aCons (cVar 0) (aCons (cCall lenD (aCons (cVar 7) aNil)) aNil))))) aNil))) aNil))))) (cBin subtD (cVar 6) (cD (.int 5)))))
  (sRet (nDat (cJoin (cD (.str s_x20)) (cBin addD (cBin addD (cCut (cVar 7) oNone (oSome (cVar 5))) (cVar 8)) (cCut (cVar 7) (oSome (cBin addD (cVar 5) (cD (.int 1)))) oNone)))))))) (bE b a v3 v4 (.val (.int k)) (.val (.int v6)) .no .no) = some (.rt (.dat (.str (S (jn ws)))) (bE b' a v3 v4 (.val (.int k')) (.val (.int v6)) (.val (wD (wds a))) (.val (wD pw)))) := by
  have tw := wds_tx h
  have mw := M_wds a
  have ne := wds_ne a
  have a1 : sSet 7 (cSplit (cVar 1) (cD (.str s_x20))) (bE b a v3 v4 (.val (.int k)) (.val (.int v6)) .no .no) = some (.nx (bE b a v3 v4 (.val (.int k)) (.val (.int v6)) (.val (wD (wds a))) .no)) := r_set (split_D h (r_var rfl)) rfl
  generalize wds a = us at tw mw ne a1 ⊢
  have l1 : us.length ≤ 20001 := by have := M_len (ws := us); omega
  have l0 : 0 < us.length := List.length_pos_iff.mpr ne
  obtain ⟨k1, b1, hb1, k10, k11, tk1⟩ := e_tk hb (n := (us.length : Nat)) (by omega) (by omega)
  obtain ⟨k2, b2, hb2, k20, k21, tk2⟩ := e_tk hb1 (n := (us.length : Nat)) (by omega) (by omega)
  obtain ⟨w1, hw1, s1⟩ := ix_W k10 k11
  obtain ⟨w2, hw2, s2⟩ := ix_W k20 k21
  have ln : lenD [wD us] = some (.int (us.length : Nat)) := by
    show some (PyData.int ((us.map fun w => PyData.str (S w)).length : Nat)) = _
    rw [List.length_map]
  have a2 : sSet 5 (cFrz (nCall [0] 2 fTake (aCons (cVar 0) (aCons (cCall lenD (aCons (cVar 7) aNil)) aNil)))) (bE b a v3 v4 (.val (.int k)) (.val (.int v6)) (.val (wD us)) .no) = some (.nx (bE b1 a v3 v4 (.val (.int k1)) (.val (.int v6)) (.val (wD us)) .no)) := by
    unfold bE
    generalize PyData.str (S a) = A
    generalize moreD = D
    generalize wD us = X at ln ⊢
    generalize PyData.int ((us.length : Nat) : Int) = N0 at ln tk1
    simp! only [setSl, List.replicate, pinS, Md.unb, VR.ap_fld1, VR.ap_pFld, VR.ap_pKey, VR.ap_keyT1, cv_bg, ln, tk1]
  obtain ⟨pw, hp, hm, s3⟩ : ∃ pw, (∀ w ∈ pw, w ∈ us) ∧ M1 pw ≤ 2 * (a.length + 1) ∧ subD (.list [.list [], wD [w1, w1], wD [w2]]) (.int (v6 - 5)) = some (wD pw) := by
    have q1 := M_mem hw1
    have q2 := M_mem hw2
    have z0 : M1 ([] : List (List Nat)) = 0 := rfl
    rw [M_cons, z0] at q1 q2
    have : v6 = 5 ∨ v6 = 6 ∨ v6 = 7 := by omega
    rcases this with rfl | rfl | rfl
    · exact ⟨[], (fun _ h => nomatch h), by rw [z0]; omega, rfl⟩
    · exact ⟨[w1, w1], (fun w h => by simp at h; rw [h]; exact hw1), by rw [M_cons, M_cons, z0]; omega, rfl⟩
    · exact ⟨[w2], (fun w h => by rw [List.mem_singleton.mp h]; exact hw2), by rw [M_cons, z0]; omega, rfl⟩
  have t0 : Tr.toD (.lst []) = some (.list []) := rfl
  have t1 : Tr.toD (.lst [.dat (.str (S w1))]) = some (wD [w1]) := rfl
  have t2 : Tr.toD (.lst [.dat (.str (S w2))]) = some (wD [w2]) := rfl
  have t3 : Tr.toD (.lst [.dat (.list []), .dat (wD [w1, w1]), .dat (wD [w2])]) = some (.list [.list [], wD [w1, w1], wD [w2]]) := rfl
  have rp : repD (wD [w1]) (.int 2) = some (wD [w1, w1]) := rfl
  have sb : subtD (.int v6) (.int 5) = some (.int (v6 - 5)) := rfl
  have a3 : sSet 8 (cBin subD (cFrz (nLst (aCons (cFrz (nLst aNil)) (aCons (cBin repD (cFrz (nLst (aCons (cBin subD (cVar 7) (cVar 5)) aNil))) (cD (.int 2))) (aCons (cFrz (nLst (aCons (cBin subD (cVar 7) (cFrz (nCall [0] 2 fTake (aCons (cVar 0) (aCons (cCall lenD (aCons (cVar 7) aNil)) aNil))))) aNil))) aNil))))) (cBin subtD (cVar 6) (cD (.int 5)))) (bE b1 a v3 v4 (.val (.int k1)) (.val (.int v6)) (.val (wD us)) .no) = some (.nx (bE b2 a v3 v4 (.val (.int k1)) (.val (.int v6)) (.val (wD us)) (.val (wD pw)))) := by
    unfold bE
    generalize PyData.list [.list [], wD [w1, w1], wD [w2]] = L3 at t3 s3
    generalize wD us = X at ln s1 s2 ⊢
    generalize wD pw = P at s3 ⊢
    generalize wD [w1, w1] = W11 at t3 rp
    generalize wD [w1] = W1 at t1 rp
    generalize wD [w2] = W2 at t2 t3
    generalize PyData.list [] = E0 at t0 t3
    generalize PyData.str (S w1) = Z1 at s1 t1
    generalize PyData.str (S w2) = Z2 at s2 t2
    generalize PyData.str (S a) = A
    generalize moreD = D
    generalize PyData.int ((us.length : Nat) : Int) = N0 at ln tk1 tk2
    generalize PyData.int k1 = K1 at s1 ⊢
    generalize PyData.int (v6 - 5) = V5 at s3 sb
    simp! only [setSl, List.replicate, pinS, Md.unb, VR.ap_fld1, VR.ap_pFld, VR.ap_pKey, VR.ap_keyT1, cv_bg, ln, tk2, t0, s1, t1, rp, s2, t2, t3, sb, s3]
  obtain ⟨ls, c1, m1, n1⟩ := cut_W us none (some k1)
  obtain ⟨rs, c2, m2, n2⟩ := cut_W us (some (k1 + 1)) none
  have ad1 : addD (wD ls) (wD pw) = some (wD (ls ++ pw)) := cat_W (by omega)
  have ad2 : addD (wD (ls ++ pw)) (wD rs) = some (wD (ls ++ pw ++ rs)) := cat_W (by rw [M_app]; omega)
  have ak : addD (.int k1) (.int 1) = some (.int (k1 + 1)) := rfl
  have g9 : cBin addD (cBin addD (cCut (cVar 7) oNone (oSome (cVar 5))) (cVar 8)) (cCut (cVar 7) (oSome (cBin addD (cVar 5) (cD (.int 1)))) oNone) (bE b2 a v3 v4 (.val (.int k1)) (.val (.int v6)) (.val (wD us)) (.val (wD pw))) = some (.ok (.d (wD (ls ++ pw ++ rs))) (bE b2 a v3 v4 (.val (.int k1)) (.val (.int v6)) (.val (wD us)) (.val (wD pw)))) := by
    unfold bE
    generalize wD (ls ++ pw ++ rs) = Y2 at ad2 ⊢
    generalize wD (ls ++ pw) = Y1 at ad1 ad2
    generalize wD us = X at c1 c2 ⊢
    generalize wD pw = P at ad1 ⊢
    generalize wD ls = L at c1 ad1
    generalize wD rs = R at c2 ad2
    generalize PyData.str (S a) = A
    generalize moreD = D
    simp! only [setSl, List.replicate, pinS, Md.unb, VR.ap_fld1, VR.ap_pFld, VR.ap_pKey, VR.ap_keyT1, c1, c2, ad1, ad2, ak]
  have mm : M1 (ls ++ pw ++ rs) ≤ 4 * (a.length + 1) := by
    rw [M_app, M_app]
    omega
  have j := join_D (ws := ls ++ pw ++ rs) (f := cD (.str s_x20)) (ρ := bE b2 a v3 v4 (.val (.int k1)) (.val (.int v6)) (.val (wD us)) (.val (wD pw))) rfl g9 (by unfold M1 at mm; omega)
  have jl := jn_len (ls ++ pw ++ rs)
  refine ⟨ls ++ pw ++ rs, k1, pw, b2, hb2, fun c hc => ?_, by unfold M1 at mm; omega, ?_⟩
  · rcases jn_mem hc with rfl | ⟨w, hw, hc⟩
    · decide
    · have : w ∈ us := by
        rcases List.mem_append.mp hw with hw | hw
        · rcases List.mem_append.mp hw with hw | hw
          · exact m1 w hw
          · exact hp w hw
        · exact m2 w hw
      exact (tw w this).c c hc
  · rw [seq_nx a1, seq_nx a2, seq_nx a3]
    generalize cJoin (cD (.str s_x20)) (cBin addD (cBin addD (cCut (cVar 7) oNone (oSome (cVar 5))) (cVar 8)) (cCut (cVar 7) (oSome (cBin addD (cVar 5) (cD (.int 1)))) oNone)) = ff at j ⊢
    generalize (bE b2 a v3 v4 (.val (.int k1)) (.val (.int v6)) (.val (wD us)) (.val (wD pw))) = ρ at j ⊢
    simp! only [setSl, List.replicate, pinS, Md.unb, VR.ap_fld1, VR.ap_pFld, VR.ap_pKey, VR.ap_keyT1, j]
end
end K24

end

section
set_option Elab.async false
set_option linter.all false
set_option maxRecDepth 100000
set_option maxHeartbeats 4000000
namespace K24
open PySem PySem.Spec PyProof.Rows L2 VL SM SN SP SH
theorem e_bent {b : Bag} {a : List Nat} (hb : BgOk b) (h : Tx a) (hl : a.length ≤ 20000) : ∃ l b', BgOk b' ∧ Ch l ∧ l.length ≤ 5 * a.length + 20 ∧ F__law_bent [.own .pin (bgT b), .val (.str (S a)), .val moreD] = some (.ret (.dat (.str (S l))), [.own .pin (bgT b'), .val (.str (S a)), .val moreD]) := by
  have fin : ∀ l b' v3 v4 v5 v6 v7 v8, BgOk b' → Ch l → l.length ≤ 5 * a.length + 20 → g__law_bent (bE b a .no .no .no .no .no .no) = some (.rt (.dat (.str (S l))) (bE b' a v3 v4 v5 v6 v7 v8)) → ∃ l b', BgOk b' ∧ Ch l ∧ l.length ≤ 5 * a.length + 20 ∧ F__law_bent [.own .pin (bgT b), .val (.str (S a)), .val moreD] = some (.ret (.dat (.str (S l))), [.own .pin (bgT b'), .val (.str (S a)), .val moreD]) := fun l b' v3 v4 v5 v6 v7 v8 h1 h2 h3 e => ⟨l, b', h1, h2, h3, (run_rt (n := 9) (g := g__law_bent) (args := [.own .pin (bgT b), .val (.str (S a)), .val moreD]) (ρ' := bE b' a v3 v4 v5 v6 v7 v8) e).trans rfl⟩
  have hn := h.n
  have a0 : sSet 3 (cD (.str sigS)) (bE b a .no .no .no .no .no .no) = some (.nx (bE b a (.val (.str sigS)) .no .no .no .no .no)) := r_set (ρ1 := bE b a .no .no .no .no .no .no) (d := .str sigS) rfl rfl
  obtain ⟨nw, b1, hb1, cn, ln, a1⟩ := bent_4 (a := a) (v5 := .no) (v6 := .no) (v7 := .no) (v8 := .no) hb
  obtain ⟨k, b2, hb2, a2⟩ := bent_5 (a := a) (v3 := .val (.str sigS)) (v4 := .val (.str (S nw))) (v6 := .no) (v7 := .no) (v8 := .no) hb1 hn
  obtain ⟨w, b3, hb3, w0, w8, a3⟩ := bent_6 (a := a) (v3 := .val (.str sigS)) (v4 := .val (.str (S nw))) (v5 := .val (.int k)) (v7 := .no) (v8 := .no) hb2
  have q2 : ltD (.int w) (.int 2) = some (decide (w < 2)) := rfl
  have e2 : eqD (.int w) (.int 2) = some (decide (w = 2)) := rfl
  have e3 : eqD (.int w) (.int 3) = some (decide (w = 3)) := rfl
  have e4 : eqD (.int w) (.int 4) = some (decide (w = 4)) := rfl
  have sub : ∀ {l : List Nat}, (∀ c ∈ l, c ∈ a) → Ch l := fun hs c hc => h.c c (hs c hc)
  by_cases z2 : w < 2
  · rw [decide_eq_true z2] at q2
    obtain ⟨l1, c1, s1, n1⟩ := cut_any hn none (some k)
    obtain ⟨l2, c2, s2, n2⟩ := cut_any hn (some (k + w)) none
    have ad : addD (.int k) (.int w) = some (.int (k + w)) := rfl
    have j1 : addD (.str (S l1)) (.str (S nw)) = some (.str (S (l1 ++ nw))) := cat_S (by omega) (by omega)
    have j2 : addD (.str (S (l1 ++ nw))) (.str (S l2)) = some (.str (S (l1 ++ nw ++ l2))) := cat_S (by rw [List.length_append]; omega) (by omega)
    refine fin (l1 ++ nw ++ l2) b3 (.val (.str sigS)) (.val (.str (S nw))) (.val (.int k)) (.val (.int w)) .no .no hb3 (((sub s1).app cn).app (sub s2)) (by simp only [List.length_append]; omega) ?_
    unfold g__law_bent
    rw [seq_nx a0, seq_nx a1, seq_nx a2, seq_nx a3]
    unfold bE
    generalize PyData.str (S (l1 ++ nw ++ l2)) = Z3 at j2 ⊢
    generalize PyData.str (S (l1 ++ nw)) = Z2 at j1 j2
    generalize PyData.str (S l1) = Z1 at c1 j1
    generalize PyData.str (S l2) = Z0 at c2 j2
    generalize PyData.str (S nw) = Zn at j1 ⊢
    generalize PyData.str (S a) = A at c1 c2 ⊢
    generalize moreD = D
    generalize PyData.str sigS = G
    simp! only [setSl, List.replicate, pinS, Md.unb, VR.ap_fld1, VR.ap_pFld, VR.ap_pKey, VR.ap_keyT1, q2, c1, c2, ad, j1, j2]
  rw [decide_eq_false z2] at q2
  by_cases z3 : w = 2
  · rw [decide_eq_true z3] at e2
    obtain ⟨l1, c1, s1, n1⟩ := cut_any hn none (some k)
    obtain ⟨l2, c2, s2, n2⟩ := cut_any hn (some (k + 1)) none
    have ad : addD (.int k) (.int 1) = some (.int (k + 1)) := rfl
    have j1 : addD (.str (S l1)) (.str (S l2)) = some (.str (S (l1 ++ l2))) := cat_S (by omega) (by omega)
    refine fin (l1 ++ l2) b3 (.val (.str sigS)) (.val (.str (S nw))) (.val (.int k)) (.val (.int w)) .no .no hb3 ((sub s1).app (sub s2)) (by simp only [List.length_append]; omega) ?_
    unfold g__law_bent
    rw [seq_nx a0, seq_nx a1, seq_nx a2, seq_nx a3]
    unfold bE
    generalize PyData.str (S (l1 ++ l2)) = Z2 at j1 ⊢
    generalize PyData.str (S l1) = Z1 at c1 j1
    generalize PyData.str (S l2) = Z0 at c2 j1
    generalize PyData.str (S nw) = Zn
    generalize PyData.str (S a) = A at c1 c2 ⊢
    generalize moreD = D
    generalize PyData.str sigS = G
    simp! only [setSl, List.replicate, pinS, Md.unb, VR.ap_fld1, VR.ap_pFld, VR.ap_pKey, VR.ap_keyT1, q2, e2, c1, c2, ad, j1]
  rw [decide_eq_false z3] at e2
  by_cases z4 : w = 3
  · rw [decide_eq_true z4] at e3
    obtain ⟨l1, c1, s1, n1⟩ := cut_any hn none (some (k + 1))
    obtain ⟨l2, c2, s2, n2⟩ := cut_any hn (some k) none
    have ad : addD (.int k) (.int 1) = some (.int (k + 1)) := rfl
    have j1 : addD (.str (S l1)) (.str (S l2)) = some (.str (S (l1 ++ l2))) := cat_S (by omega) (by omega)
    refine fin (l1 ++ l2) b3 (.val (.str sigS)) (.val (.str (S nw))) (.val (.int k)) (.val (.int w)) .no .no hb3 ((sub s1).app (sub s2)) (by simp only [List.length_append]; omega) ?_
    unfold g__law_bent
    rw [seq_nx a0, seq_nx a1, seq_nx a2, seq_nx a3]
    unfold bE
    generalize PyData.str (S (l1 ++ l2)) = Z2 at j1 ⊢
    generalize PyData.str (S l1) = Z1 at c1 j1
    generalize PyData.str (S l2) = Z0 at c2 j1
    generalize PyData.str (S nw) = Zn
    generalize PyData.str (S a) = A at c1 c2 ⊢
    generalize moreD = D
    generalize PyData.str sigS = G
    simp! only [setSl, List.replicate, pinS, Md.unb, VR.ap_fld1, VR.ap_pFld, VR.ap_pKey, VR.ap_keyT1, q2, e2, e3, c1, c2, ad, j1]
  rw [decide_eq_false z4] at e3
  by_cases z5 : w = 4
  · rw [decide_eq_true z5] at e4
    obtain ⟨l1, c1, s1, n1⟩ := cut_any hn none (some k)
    obtain ⟨l2, c2, s2, n2⟩ := cut_any hn (some k) (some (k + 2))
    obtain ⟨l3, c3, s3, n3⟩ := cut_any hn (some (k + 2)) none
    have ad : addD (.int k) (.int 2) = some (.int (k + 2)) := rfl
    have j1 : addD (.str (S l1)) (.str (S l2.reverse)) = some (.str (S (l1 ++ l2.reverse))) := cat_S (by omega) (by rw [List.length_reverse]; omega)
    have j2 : addD (.str (S (l1 ++ l2.reverse))) (.str (S l3)) = some (.str (S (l1 ++ l2.reverse ++ l3))) := cat_S (by rw [List.length_append, List.length_reverse]; omega) (by omega)
    have g2 : cCut (cVar 1) (oSome (cVar 5)) (oSome (cBin addD (cVar 5) (cD (.int 2)))) (bE b3 a (.val (.str sigS)) (.val (.str (S nw))) (.val (.int k)) (.val (.int w)) .no .no) = some (.ok (.d (.str (S l2))) (bE b3 a (.val (.str sigS)) (.val (.str (S nw))) (.val (.int k)) (.val (.int w)) .no .no)) := by
      unfold bE
      generalize PyData.str (S l2) = Z0 at c2 ⊢
      generalize PyData.str (S nw) = Zn
      generalize PyData.str (S a) = A at c2 ⊢
      generalize moreD = D
      generalize PyData.str sigS = G
      simp! only [setSl, List.replicate, pinS, Md.unb, VR.ap_fld1, VR.ap_pFld, VR.ap_pKey, VR.ap_keyT1, c2, ad]
    have rv := rev_S g2 (by omega)
    refine fin (l1 ++ l2.reverse ++ l3) b3 (.val (.str sigS)) (.val (.str (S nw))) (.val (.int k)) (.val (.int w)) .no .no hb3 (((sub s1).app (fun c hc => sub s2 c (List.mem_reverse.mp hc))).app (sub s3)) (by simp only [List.length_append, List.length_reverse]; omega) ?_
    unfold g__law_bent
    rw [seq_nx a0, seq_nx a1, seq_nx a2, seq_nx a3]
    generalize cRevS (cCut (cVar 1) (oSome (cVar 5)) (oSome (cBin addD (cVar 5) (cD (.int 2))))) = fR at rv ⊢
    unfold bE at rv ⊢
    generalize PyData.str (S (l1 ++ l2.reverse ++ l3)) = Z3 at j2 ⊢
    generalize PyData.str (S (l1 ++ l2.reverse)) = Z2 at j1 j2
    generalize PyData.str (S l1) = Z1 at c1 j1
    generalize PyData.str (S l2.reverse) = Z0 at rv j1
    generalize PyData.str (S l3) = Z4 at c3 j2
    generalize PyData.str (S nw) = Zn at rv ⊢
    generalize PyData.str (S a) = A at c1 c3 rv ⊢
    generalize moreD = D at rv ⊢
    generalize PyData.str sigS = G at rv ⊢
    simp! only [setSl, List.replicate, pinS, Md.unb, VR.ap_fld1, VR.ap_pFld, VR.ap_pKey, VR.ap_keyT1, q2, e2, e3, e4, c1, c3, rv, ad, j1, j2]
  rw [decide_eq_false z5] at e4
  obtain ⟨ws, k', pw, b4, hb4, c9, l9, e9⟩ := bent_9 (a := a) (v3 := .val (.str sigS)) (v4 := .val (.str (S nw))) (k := k) (v6 := w) hb3 h hl (by omega) w8
  refine fin (jn ws) b4 (.val (.str sigS)) (.val (.str (S nw))) (.val (.int k')) (.val (.int w)) (.val (wD (wds a))) (.val (wD pw)) hb4 c9 l9 ?_
  unfold g__law_bent
  have no : ∀ {c : M Bool} {g : MS} {ρ : Rho}, c ρ = some (.ok false ρ) → sIf c g sNil ρ = some (.nx ρ) := fun e => by rw [r_ifF e]; rfl
  have r6 : cVar 6 (bE b3 a (.val (.str sigS)) (.val (.str (S nw))) (.val (.int k)) (.val (.int w)) .no .no) = some (.ok (.d (.int w)) _) := r_var rfl
  have i1 := r_cmp (f1 := cVar 6) (f2 := cD (.int 2)) r6 rfl q2
  have i2 := r_cmp (f1 := cVar 6) (f2 := cD (.int 2)) r6 rfl e2
  have i3 := r_cmp (f1 := cVar 6) (f2 := cD (.int 3)) r6 rfl e3
  have i4 := r_cmp (f1 := cVar 6) (f2 := cD (.int 4)) r6 rfl e4
  rw [seq_nx a0, seq_nx a1, seq_nx a2, seq_nx a3, seq_nx (no i1), seq_nx (no i2), seq_nx (no i3), seq_nx (no i4)]
  exact e9
end K24

end

section
set_option Elab.async false
set_option linter.all false
set_option maxRecDepth 100000
set_option maxHeartbeats 4000000
namespace K24
open PySem PySem.Spec PyProof.Rows L2 VL SM SN SP SH
theorem Tx.of {l : List Nat} (h : Ch l) (hl : l.length ≤ 100000) : Tx l := ⟨h, hl⟩
theorem more_td : Tr.toD (.lst [.dat (.str s_0), .dat (.str s_5), .dat (.str s_b), .dat (.str s_s), .dat (.str s_x78), .dat (.str s_c), .dat (.str s_w), .dat (.str s_to), .dat (.str s_from), .dat (.str s_x20)]) = some moreD := rfl
theorem bentF {b : Bag} {d e : PyData} : F__law_bent [.own .free (bgT b), .val d, .val e] = F__law_bent [.own .pin (bgT b), .val d, .val e] := rfl
theorem signF {b : Bag} : fSign [.own .free (bgT b)] = fSign [.own .pin (bgT b)] := rfl
theorem cardF {b : Bag} {d : PyData} : fCard [.own .free (bgT b), .val d] = fCard [.own .pin (bgT b), .val d] := rfl
section
variable {S0 K : PyData} {v3 v4 v5 v7 v8 v9 : Sl} {b : Bag} {a : List Nat}
theorem one_turn (hb : BgOk b) (h : Tx a) (hl : a.length ≤ 15000) : ∃ l b', BgOk b' ∧ Ch l ∧ l.length ≤ 5 * a.length + 20 ∧ b_law_1 [.val S0, .val K, .own .free (bgT b), v3, v4, v5, .val (.str (S a)), v7, v8, v9] = some (.nx [.val S0, .val K, .own .free (bgT b'), v3, v4, v5, .val (.str (S l)), v7, v8, v9]) := by
  obtain ⟨l, b', hb', cl, ll, e⟩ := e_bent hb h (by omega)
  obtain ⟨o, r⟩ := e_right (Tx.of cl (by omega))
  refine ⟨l, b', hb', cl, ll, ?_⟩
  have td := more_td
  have a1 : sSet 6 (cFrz (nCall [2, 6] 3 F__law_bent (aCons (cVar 2) (aCons (cVar 6) (aCons (cFrz (nLst (aCons (cD (.str s_0)) (aCons (cD (.str s_5)) (aCons (cD (.str s_b)) (aCons (cD (.str s_s)) (aCons (cD (.str s_x78)) (aCons (cD (.str s_c)) (aCons (cD (.str s_w)) (aCons (cD (.str s_to)) (aCons (cD (.str s_from)) (aCons (cD (.str s_x20)) aNil)))))))))))) aNil))))) [.val S0, .val K, .own .free (bgT b), v3, v4, v5, .val (.str (S a)), v7, v8, v9] = some (.nx [.val S0, .val K, .own .free (bgT b'), v3, v4, v5, .val (.str (S l)), v7, v8, v9]) := by
    generalize moreD = D at e td
    generalize PyData.str (S a) = A at e ⊢
    generalize PyData.str (S l) = L at e ⊢
    have s10 : small 10 = true := small_of (by decide)
    simp! only [setSl, List.replicate, pinS, Md.unb, VR.ap_fld1, VR.ap_pFld, VR.ap_pKey, VR.ap_keyT1, cv_bg, bentF, s10, td, e]
  unfold b_law_1
  rw [seq_nx a1]
  generalize PyData.str (S l) = L at r ⊢
  simp! only [setSl, List.replicate, pinS, Md.unb, VR.ap_fld1, VR.ap_pFld, VR.ap_pKey, VR.ap_keyT1, r]
theorem turns (hb : BgOk b) (h : Tx a) (hl : a.length ≤ 100) (h7 : frB (some v7) = true) : ∃ l b' w7, BgOk b' ∧ frB (some w7) = true ∧ b_law_2 [.val S0, .val K, .own .free (bgT b), v3, v4, v5, .val (.str (S a)), v7, v8, v9] = some (.nx [.val S0, .val K, .own .free (bgT b'), v3, v4, v5, .val (.str (S l)), w7, v8, v9]) := by
  obtain ⟨l1, b1, x1, x2, x3, x4⟩ := one_turn (S0 := S0) (K := K) (v3 := v3) (v4 := v4) (v5 := v5) (v7 := .val (.int 0)) (v8 := v8) (v9 := v9) hb h (by omega)
  obtain ⟨l2, b2, y1, y2, y3, y4⟩ := one_turn (S0 := S0) (K := K) (v3 := v3) (v4 := v4) (v5 := v5) (v7 := .val (.int 1)) (v8 := v8) (v9 := v9) x1 (Tx.of x2 (by omega)) (by omega)
  obtain ⟨l3, b3, z1, z2, z3, z4⟩ := one_turn (S0 := S0) (K := K) (v3 := v3) (v4 := v4) (v5 := v5) (v7 := .val (.int 2)) (v8 := v8) (v9 := v9) y1 (Tx.of y2 (by omega)) (by omega)
  refine ⟨l3, b3, .val (.int 2), z1, rfl, ?_⟩
  have it : iRange1 (aCons (cD (.int 3)) aNil) [.val S0, .val K, .own .free (bgT b), v3, v4, v5, .val (.str (S a)), v7, v8, v9] = some (.ok ((List.range 3).map fun k => .int (0 + (k : Nat))) [.val S0, .val K, .own .free (bgT b), v3, v4, v5, .val (.str (S a)), v7, v8, v9]) := rng2 (by
      simp! only [setSl, List.replicate, pinS, Md.unb, VR.ap_fld1, VR.ap_pFld, VR.ap_pKey, VR.ap_keyT1]
      rfl) (by decide)
  have it : _ = some (Er.ok [PyData.int 0, PyData.int 1, PyData.int 2] _) := it
  unfold b_law_2
  refine for_ok it ?_
  rw [loop_cons (setSl_f h7) x4, loop_cons (setSl_f rfl) y4, loop_cons (setSl_f rfl) z4]
  rfl
theorem thing {v6 : Sl} {x : PyData} {B : Sl} (h : Exo F_read_sign [.val x] .none ∧ Exo F_read_showing [.val x] .none ∧ Exo F_read_card [.val x] .none) : b_law_0 [.val S0, .val K, B, v3, v4, v5, v6, v7, .val x, .no] = some (.nx [.val S0, .val K, B, v3, v4, v5, v6, v7, .val x, .no]) := by
  have c := no_D h (i := 8) (v := 9) (ρ := [.val S0, .val K, B, v3, v4, v5, v6, v7, .val x, .no]) rfl fun _ => rfl
  have t1 : Tr.toD (.lst [.dat (.str s_x4e6f546578742b)]) = some (.list [.str s_x4e6f546578742b]) := rfl
  have r3 : repD (.list [.str s_x4e6f546578742b]) (.int 3) = some (.list [.str s_x4e6f546578742b, .str s_x4e6f546578742b, .str s_x4e6f546578742b]) := rfl
  have sn : Sh 1 (.str s_x4e6f546578742b) := .str nt_can
  have q := ne_self (n := 2) (d := .list [.str s_x4e6f546578742b, .str s_x4e6f546578742b, .str s_x4e6f546578742b]) (.list fun x hx => by
    simp only [List.mem_cons, List.not_mem_nil, or_false] at hx
    rcases hx with rfl | rfl | rfl <;> exact sn) (by decide)
  unfold b_law_0
  generalize cFrz (nComp (iRange1 (aCons (cD (.int 3)) aNil)) [9] (gN 9) tYesM (cFrz (nCall [9, 8] 2 F__law_read_by (aCons (cVar 9) (aCons (cVar 8) aNil))))) = ff at c ⊢
  generalize PyData.list [.str s_x4e6f546578742b, .str s_x4e6f546578742b, .str s_x4e6f546578742b] = L3 at c r3 q
  generalize PyData.list [.str s_x4e6f546578742b] = L1 at t1 r3
  simp! only [setSl, List.replicate, pinS, Md.unb, VR.ap_fld1, VR.ap_pFld, VR.ap_pKey, VR.ap_keyT1, c, t1, r3, q]
end
end K24

end

section
set_option Elab.async false
set_option linter.all false
set_option maxRecDepth 100000
set_option maxHeartbeats 4000000
namespace K24
open PySem PySem.Spec PyProof.Rows L2 VL SM SN SP SH
theorem e_card {b : Bag} (hb : BgOk b) : ∃ w o p c m sd b', CT w o p c m sd ∧ BgOk b' ∧ fCard [.own .pin (bgT b), .val (.int 12)] = some (.ret (.dat (ctD w o p c m sd)), [.own .pin (bgT b'), .val (.int 12)]) := by
  obtain ⟨t, outs, e, x, b', h1, h2, rfl, rfl⟩ := card_ok (m := .pin) (n := 12) rfl hb (by decide) (by decide) (Q := fun t outs => ∃ x b', CrdOk 12 x ∧ BgOk b' ∧ t = .dat x.D ∧ outs = [.own .pin (bgT b'), .val (.int 12)]) fun d t' hd ht => by
    obtain ⟨x, rfl, hx⟩ := card_inv hd
    obtain ⟨b', rfl, h⟩ := bg_of ht
    exact ⟨x, b', hx, h, rfl, rfl⟩
  obtain ⟨w, o, p, c, m, sd, ex, k⟩ := ct_of h1
  rw [ex] at e
  exact ⟨w, o, p, c, m, sd, b', k, h2, e⟩
theorem exo_ret {F : Fn} {a : List Sl} {d : PyData} (h : Exo F a d) (hn : d ≠ .none) : ∃ o, F a = some (.ret (.dat d), o) := by
  rcases h with ⟨h, _⟩ | ⟨_, h⟩
  · exact absurd h hn
  · exact h
section
variable {S0 K : PyData} {v2 v3 v4 v5 v6 v7 v8 v9 : Sl} {b b1 : Bag} {o0 : List Sl}
theorem c1 (h : frB (some v2) = true) (e0 : fBag [.val S0, .val K] = some (.ret (bgT b), o0)) : sSetN 2 (nCall [0, 1] 2 fBag (aCons (cVar 0) (aCons (cVar 1) aNil))) [.val S0, .val K, v2, v3, v4, v5, v6, v7, v8, v9] = some (.nx [.val S0, .val K, .own .free (bgT b), v3, v4, v5, v6, v7, v8, v9]) := by
  simp! only [List.replicate, pinS, Md.unb, VR.ap_fld1, VR.ap_pFld, VR.ap_pKey, VR.ap_keyT1, e0, setSl_f, h]
theorem c2 {d : PyData} (h : frB (some v3) = true) (e : fSign [.own .pin (bgT b)] = some (.ret (.dat d), [.own .pin (bgT b1)])) : sSet 3 (cFrz (nCall [2] 1 fSign (aCons (cVar 2) aNil))) [.val S0, .val K, .own .free (bgT b), v3, v4, v5, v6, v7, v8, v9] = some (.nx [.val S0, .val K, .own .free (bgT b1), .val d, v4, v5, v6, v7, v8, v9]) := by
  simp! only [List.replicate, pinS, Md.unb, VR.ap_fld1, VR.ap_pFld, VR.ap_pKey, VR.ap_keyT1, cv_bg, signF, e, setSl_f, h]
theorem c3 {d : PyData} (h : frB (some v4) = true) (e : fCard [.own .pin (bgT b), .val (.int 12)] = some (.ret (.dat d), [.own .pin (bgT b1), .val (.int 12)])) : sSet 4 (cFrz (nCall [2] 2 fCard (aCons (cVar 2) (aCons (cD (.int 12)) aNil)))) [.val S0, .val K, .own .free (bgT b), v3, v4, v5, v6, v7, v8, v9] = some (.nx [.val S0, .val K, .own .free (bgT b1), v3, .val d, v5, v6, v7, v8, v9]) := by
  simp! only [List.replicate, pinS, Md.unb, VR.ap_fld1, VR.ap_pFld, VR.ap_pKey, VR.ap_keyT1, cv_bg, cardF, e, setSl_f, h]
theorem c4 {B : Sl} {A C X Y Z T : PyData} {o1 o2 : List Sl} (h : frB (some v5) = true) (e1 : F__law_sign_text [.val A] = some (.ret (.dat X), o1)) (ct : cutD X (some 3) none = some Y) (e2 : F__law_card_text [.val C] = some (.ret (.dat Z), o2)) (td : Tr.toD (.lst [.dat X, .dat Y, .dat Z]) = some T) :
    sSet 5 (cFrz (nLst (aCons (cFrz (nCall [3] 1 F__law_sign_text (aCons (cVar 3) aNil))) (aCons (cCut (cFrz (nCall [3] 1 F__law_sign_text (aCons (cVar 3) aNil))) (oSome (cD (.int 3))) oNone) (aCons (cFrz (nCall [4] 1 F__law_card_text (aCons (cVar 4) aNil))) aNil))))) [.val S0, .val K, B, .val A, .val C, v5, v6, v7, v8, v9] = some (.nx [.val S0, .val K, B, .val A, .val C, .val T, v6, v7, v8, v9]) := by
  simp! only [List.replicate, pinS, Md.unb, VR.ap_fld1, VR.ap_pFld, VR.ap_pKey, VR.ap_keyT1, e1, ct, e2, td, setSl_f, h]
theorem c5 {B : Sl} {A A2 C X Y Z T : PyData} {o1 o2 o3 : List Sl} (e1 : F_sign_text [.val A] = some (.ret (.dat X), o1)) (ct : cutD A (some 2) none = some A2) (e2 : F_showing_text [.val A2] = some (.ret (.dat Y), o2)) (e3 : F_card_text [.val C] = some (.ret (.dat Z), o3)) (td : Tr.toD (.lst [.dat X, .dat Y, .dat Z]) = some T) (q : neD T T = some false) :
    sIf (cCmp neD (cFrz (nLst (aCons (cFrz (nCall [3] 1 F_sign_text (aCons (cVar 3) aNil))) (aCons (cFrz (nCall [] 1 F_showing_text (aCons (cCut (cVar 3) (oSome (cD (.int 2))) oNone) aNil))) (aCons (cFrz (nCall [4] 1 F_card_text (aCons (cVar 4) aNil))) aNil))))) (cVar 5)) (sRet (nDat (cD (.bool false)))) sNil [.val S0, .val K, B, .val A, .val C, .val T, v6, v7, v8, v9] = some (.nx [.val S0, .val K, B, .val A, .val C, .val T, v6, v7, v8, v9]) := by
  simp! only [setSl, List.replicate, pinS, Md.unb, VR.ap_fld1, VR.ap_pFld, VR.ap_pKey, VR.ap_keyT1, e1, ct, e2, e3, td, q]
theorem c6 {B : Sl} {A A2 C X Y Z T R : PyData} {o1 o2 o3 : List Sl} (i0 : subD T (.int 0) = some X) (i1 : subD T (.int 1) = some Y) (i2 : subD T (.int 2) = some Z) (ct : cutD A (some 2) none = some A2) (e1 : F_read_sign [.val X] = some (.ret (.dat A), o1)) (e2 : F_read_showing [.val Y] = some (.ret (.dat A2), o2)) (e3 : F_read_card [.val Z] = some (.ret (.dat C), o3)) (td : Tr.toD (.lst [.dat A, .dat A2, .dat C]) = some R) (q : neD R R = some false) :
    sIf (cCmp neD (cFrz (nLst (aCons (cFrz (nCallR [] 1 F_read_sign (aCons (cBin subD (cVar 5) (cD (.int 0))) aNil))) (aCons (cFrz (nCallR [] 1 F_read_showing (aCons (cBin subD (cVar 5) (cD (.int 1))) aNil))) (aCons (cFrz (nCallR [] 1 F_read_card (aCons (cBin subD (cVar 5) (cD (.int 2))) aNil))) aNil))))) (cFrz (nLst (aCons (cVar 3) (aCons (cCut (cVar 3) (oSome (cD (.int 2))) oNone) (aCons (cVar 4) aNil)))))) (sRet (nDat (cD (.bool false)))) sNil [.val S0, .val K, B, .val A, .val C, .val T, v6, v7, v8, v9] = some (.nx [.val S0, .val K, B, .val A, .val C, .val T, v6, v7, v8, v9]) := by
  simp! only [setSl, List.replicate, pinS, Md.unb, VR.ap_fld1, VR.ap_pFld, VR.ap_pKey, VR.ap_keyT1, i0, i1, i2, ct, e1, e2, e3, td, q]
theorem c7 {s t u : List Nat} (hs : Tx s) (ht : Tx t) (hu : Tx u) (ls : s.length ≤ 100) (lt : t.length ≤ 100) (lu : u.length ≤ 100) (hb : BgOk b) (h6 : frB (some v6) = true) (h7 : frB (some v7) = true) :
    ∃ l b' w7, BgOk b' ∧ frB (some w7) = true ∧ sFor (iSeq (cVar 5)) (gN 6) b_law_2 [.val S0, .val K, .own .free (bgT b), v3, v4, .val (.list [.str (S s), .str (S t), .str (S u)]), v6, v7, v8, v9] = some (.nx [.val S0, .val K, .own .free (bgT b'), v3, v4, .val (.list [.str (S s), .str (S t), .str (S u)]), .val (.str (S l)), w7, v8, v9]) := by
  generalize hT : Sl.val (.list [.str (S s), .str (S t), .str (S u)]) = T
  obtain ⟨l1, b1, w1, x1, x2, x3⟩ := turns (S0 := S0) (K := K) (v3 := v3) (v4 := v4) (v5 := T) (v8 := v8) (v9 := v9) hb hs ls h7
  obtain ⟨l2, b2, w2, y1, y2, y3⟩ := turns (S0 := S0) (K := K) (v3 := v3) (v4 := v4) (v5 := T) (v8 := v8) (v9 := v9) x1 ht lt x2
  obtain ⟨l3, b3, w3, z1, z2, z3⟩ := turns (S0 := S0) (K := K) (v3 := v3) (v4 := v4) (v5 := T) (v8 := v8) (v9 := v9) y1 hu lu y2
  refine ⟨l3, b3, w3, z1, z2, ?_⟩
  have it : iSeq (cVar 5) [.val S0, .val K, .own .free (bgT b), v3, v4, T, v6, v7, v8, v9] = some (.ok [.str (S s), .str (S t), .str (S u)] _) := r_seq (by rw [← hT]; rfl)
  refine for_ok it ?_
  rw [loop_cons (setSl_f h6) x3, loop_cons (setSl_f rfl) y3, loop_cons (setSl_f rfl) z3]
  rfl
theorem none0 : Exo F_read_sign [.val (.str s_x)] .none ∧ Exo F_read_showing [.val (.str s_x)] .none ∧ Exo F_read_card [.val (.str s_x)] .none := by
  have e : wds [] = [[]] := by decide +kernel
  exact tx_none (a := []) ⟨by decide, by decide⟩ rfl rfl (by rw [e]; rfl)
theorem none1 : Exo F_read_sign [.val (.str s_x20)] .none ∧ Exo F_read_showing [.val (.str s_x20)] .none ∧ Exo F_read_card [.val (.str s_x20)] .none := by
  have e : wds [32] = [[], []] := by decide +kernel
  exact tx_none (a := [32]) ⟨by decide, by decide⟩ rfl rfl (by rw [e]; rfl)
theorem c8 {B : Sl} {A C X Y Z T A1 A2 A3 A4 : PyData} {R : PyData} (hA : A = .tuple [A1, A2, A3, A4]) (i0 : subD T (.int 0) = some X) (i2 : subD T (.int 2) = some Z) (h8 : frB (some v8) = true) :
    sFor (iSeq (cFrz (nLst (aCons (cD .none) (aCons (cD (.int 7)) (aCons (cD (.bool true)) (aCons (cVar 3) (aCons (cFrz (nLst (aCons (cBin subD (cVar 5) (cD (.int 0))) aNil))) (aCons (cTup (aCons (cBin subD (cVar 5) (cD (.int 2))) aNil)) (aCons (cD (.str s_x)) (aCons (cD (.str s_x20)) aNil))))))))))) (gN 8) b_law_0 [.val S0, .val K, B, .val A, .val C, .val T, v6, v7, v8, .no] = some (.nx [.val S0, .val K, B, .val A, .val C, .val T, v6, v7, .val (.str s_x20), .no]) := by
  have t1 : Tr.toD (.lst [.dat X]) = some (.list [X]) := rfl
  have t8 : Tr.toD (.lst [.dat .none, .dat (.int 7), .dat (.bool true), .dat A, .dat (.list [X]), .dat (.tuple [Z]), .dat (.str s_x), .dat (.str s_x20)]) = some (.list [.none, .int 7, .bool true, A, .list [X], .tuple [Z], .str s_x, .str s_x20]) := rfl
  have it : iSeq (cFrz (nLst (aCons (cD .none) (aCons (cD (.int 7)) (aCons (cD (.bool true)) (aCons (cVar 3) (aCons (cFrz (nLst (aCons (cBin subD (cVar 5) (cD (.int 0))) aNil))) (aCons (cTup (aCons (cBin subD (cVar 5) (cD (.int 2))) aNil)) (aCons (cD (.str s_x)) (aCons (cD (.str s_x20)) aNil)))))))))) [.val S0, .val K, B, .val A, .val C, .val T, v6, v7, v8, .no] = some (.ok [.none, .int 7, .bool true, A, .list [X], .tuple [Z], .str s_x, .str s_x20] [.val S0, .val K, B, .val A, .val C, .val T, v6, v7, v8, .no]) := by
    refine r_seqF ?_
    generalize PyData.list [.none, .int 7, .bool true, A, .list [X], .tuple [Z], .str s_x, .str s_x20] = L8 at t8 ⊢
    generalize PyData.list [X] = L1 at t1 t8
    simp! only [setSl, List.replicate, pinS, Md.unb, VR.ap_fld1, VR.ap_pFld, VR.ap_pKey, VR.ap_keyT1, i0, i2, t1, t8]
  refine for_ok it ?_
  subst hA
  rw [loop_cons (setSl_f h8) (thing (no_text rfl)), loop_cons (setSl_f rfl) (thing (no_text rfl)), loop_cons (setSl_f rfl) (thing (no_text rfl)), loop_cons (setSl_f rfl) (thing (no_text rfl)), loop_cons (setSl_f rfl) (thing (no_text rfl)), loop_cons (setSl_f rfl) (thing (no_text rfl)), loop_cons (setSl_f rfl) (thing none0), loop_cons (setSl_f rfl) (thing none1)]
  rfl
end
end K24

end

section
set_option Elab.async false
set_option linter.all false
set_option maxRecDepth 100000
set_option maxHeartbeats 4000000
namespace K24
open PySem PySem.Spec PyProof.Rows L2 VL SM SN SP SH
inductive JC (S0 K : PyData) : Rho → Prop where
  | mk {v2 v3 v4 v5 v6 v7 v8 : Sl} (h2 : frB (some v2) = true) (h3 : frB (some v3) = true) (h4 : frB (some v4) = true) (h5 : frB (some v5) = true) (h6 : frB (some v6) = true) (h7 : frB (some v7) = true) (h8 : frB (some v8) = true) : JC S0 K [.val S0, .val K, v2, v3, v4, v5, v6, v7, v8, .no]
theorem cell {ns : List Int} {k : Nat} {ρ : Rho} (hk : k ≤ 40) (h : JC (scrD ns) (.int (k : Nat)) ρ) : ∃ ρ', b_law_3 ρ = some (.nx ρ') ∧ JC (scrD ns) (.int (k : Nat)) ρ' := by
  obtain ⟨b, o0, hb, e0⟩ := e_bag (ns := ns) hk
  generalize scrD ns = S0 at h e0 ⊢
  generalize PyData.int (k : Nat) = K at h e0 ⊢
  cases h with
  | @mk v2 v3 v4 v5 v6 v7 v8 h2 h3 h4 h5 h6 h7 h8 =>
    have a1 := c1 (v3 := v3) (v4 := v4) (v5 := v5) (v6 := v6) (v7 := v7) (v8 := v8) (v9 := .no) h2 e0
    obtain ⟨sd, b1, hb1, sg, e1⟩ := e_sg hb
    obtain ⟨p, q, c, e, rfl, sok⟩ := sgOk_of sg
    have a2 := c2 (S0 := S0) (K := K) (v4 := v4) (v5 := v5) (v6 := v6) (v7 := v7) (v8 := v8) (v9 := .no) h3 e1
    obtain ⟨w, o, pr, ct, mm, sdl, b2, hct, hb2, e2⟩ := e_card hb1
    have a3 := c3 (S0 := S0) (K := K) (v3 := .val (sgD p q c e)) (v5 := v5) (v6 := v6) (v7 := v7) (v8 := v8) (v9 := .no) h4 e2
    obtain ⟨l, tl, ll, ⟨o1, f1⟩, ⟨o2, f2⟩, ⟨o3, f3⟩, r1, r2⟩ := sg_texts sok
    obtain ⟨o4, f4⟩ := hct.prog
    obtain ⟨o5, f5⟩ := hct.law
    obtain ⟨tc, lc⟩ := hct.tx
    have rc := hct.rd
    have td : Tx (l.drop 3) := tl.sub (fun x hx => List.mem_of_mem_drop hx) (by rw [List.length_drop]; omega)
    have q1 := e_read_sign tl
    have q2 := e_read_showing td
    have q3 := e_read_card tc
    rw [r1] at q1
    rw [r2] at q2
    rw [rc] at q3
    obtain ⟨o6, f6⟩ := exo_ret q1 (by unfold sgD; simp)
    obtain ⟨o7, f7⟩ := exo_ret q2 (by simp)
    obtain ⟨o8, f8⟩ := exo_ret q3 (by unfold ctD; simp)
    have sC : Tx sdl := hct.small.1
    have c3' : cutD (.str (S l)) (some 3) none = some (.str (S (l.drop 3))) := cut_S (n := 3) tl.n
    have cA : cutD (sgD p q c e) (some 2) none = some (.tuple [.int c, .str e]) := rfl
    have ld : (l.drop 3).length ≤ 100 := by rw [List.length_drop]; omega
    generalize hZ : jn (ctW w o pr ct mm sdl) = z at f4 f5 tc lc rc q3 f8
    have tdT : Tr.toD (.lst [.dat (.str (S l)), .dat (.str (S (l.drop 3))), .dat (.str (S z))]) = some (.list [.str (S l), .str (S (l.drop 3)), .str (S z)]) := rfl
    have a4 := c4 (S0 := S0) (K := K) (B := .own .free (bgT b2)) (v6 := v6) (v7 := v7) (v8 := v8) (v9 := .no) h5 f1 c3' f5 tdT
    have n5 := ne_self (sh3 tl td tc) (by decide)
    have a5 := c5 (S0 := S0) (K := K) (B := .own .free (bgT b2)) (v6 := v6) (v7 := v7) (v8 := v8) (v9 := .no) f2 cA f3 f4 tdT n5
    have i0 : subD (.list [.str (S l), .str (S (l.drop 3)), .str (S z)]) (.int 0) = some (.str (S l)) := rfl
    have i1 : subD (.list [.str (S l), .str (S (l.drop 3)), .str (S z)]) (.int 1) = some (.str (S (l.drop 3))) := rfl
    have i2 : subD (.list [.str (S l), .str (S (l.drop 3)), .str (S z)]) (.int 2) = some (.str (S z)) := rfl
    have tdR : Tr.toD (.lst [.dat (sgD p q c e), .dat (.tuple [.int c, .str e]), .dat (ctD w o pr ct mm sdl)]) = some (.list [sgD p q c e, .tuple [.int c, .str e], ctD w o pr ct mm sdl]) := rfl
    have shR : Sh 3 (.list [sgD p q c e, .tuple [.int c, .str e], ctD w o pr ct mm sdl]) := .list fun x hx => by
      have hs := sh_sg (a := l)
      have hw := sh_sw (a := l.drop 3)
      rw [r1] at hs
      rw [r2] at hw
      simp only [List.mem_cons, List.not_mem_nil, or_false] at hx
      rcases hx with rfl | rfl | rfl
      · exact hs
      · exact hw
      · refine (Sh.tuple (n := 0) fun y hy => ?_).mono (by omega)
        simp only [List.mem_cons, List.not_mem_nil, or_false] at hy
        rcases hy with rfl | rfl | rfl | rfl | rfl | rfl
        · exact Sh.int
        · exact Sh.int
        · exact sC.sh
        · exact Sh.int
        · exact Sh.int
        · exact Sh.int
    have a6 := c6 (S0 := S0) (K := K) (B := .own .free (bgT b2)) (v6 := v6) (v7 := v7) (v8 := v8) (v9 := .no) i0 i1 i2 cA f6 f7 f8 tdR (ne_self shR (by decide))
    obtain ⟨l', b3, w7, hb3, hw7, a7⟩ := c7 (S0 := S0) (K := K) (v3 := .val (sgD p q c e)) (v4 := .val (ctD w o pr ct mm sdl)) (v8 := v8) (v9 := .no) tl td tc (by omega) ld lc hb2 h6 h7
    have a8 := c8 (S0 := S0) (K := K) (B := .own .free (bgT b3)) (C := ctD w o pr ct mm sdl) (v6 := .val (.str (S l'))) (v7 := w7) (X := .str (S l)) (Z := .str (S z)) (Y := .none) (R := .none) (show sgD p q c e = .tuple [.str p, .int q, .int c, .str e] from rfl) i0 i2 h8
    refine ⟨_, ?_, .mk (v2 := .own .free (bgT b3)) (v3 := .val (sgD p q c e)) (v4 := .val (ctD w o pr ct mm sdl)) (v5 := .val (.list [.str (S l), .str (S (l.drop 3)), .str (S z)])) (v6 := .val (.str (S l'))) (v7 := w7) (v8 := .val (.str s_x20)) rfl rfl rfl rfl rfl hw7 rfl⟩
    unfold b_law_3
    rw [seq_nx a1, seq_nx a2, seq_nx a3, seq_nx a4, seq_nx a5, seq_nx a6, seq_nx a7]
    exact a8
theorem law_true : ∀ ns : List Int, ns.length ≤ 63 → ∃ outs, F_law [.val (scrD ns)] = some (.ret (.dat (.bool true)), outs) := by
  intro ns hns
  obtain ⟨m, em⟩ : ∃ m : Nat, (1 + (if (30 : Int) < ((ns.length : Nat) : Int) then (30 : Int) else ((ns.length : Nat) : Int)) : Int) = (m : Int) := ⟨(1 + (if (30 : Int) < ((ns.length : Nat) : Int) then (30 : Int) else ((ns.length : Nat) : Int)) : Int).toNat, by split <;> omega⟩
  have hm : m ≤ 41 := by split at em <;> omega
  have lp : ∀ (l : List Nat) (ρ : Rho), (∀ k ∈ l, k ≤ 40) → (∃ K, JC (scrD ns) K ρ) → ∃ ρ', loopF (gN 1) b_law_3 (l.map fun k => .int (0 + (k : Nat))) ρ = some (.nx ρ') ∧ ∃ K, JC (scrD ns) K ρ' := by
    intro l
    induction l with
    | nil => exact fun ρ _ h => ⟨ρ, rfl, h⟩
    | cons k l ih =>
      intro ρ hl ⟨K, h⟩
      have h1 : ∃ ρ1, gN 1 (.int (0 + (k : Nat))) ρ = some ρ1 ∧ JC (scrD ns) (.int (k : Nat)) ρ1 := by
        rw [Int.zero_add]
        cases h with
        | mk h2 h3 h4 h5 h6 h7 h8 => exact ⟨_, setSl_f rfl, .mk h2 h3 h4 h5 h6 h7 h8⟩
      obtain ⟨ρ1, g1, h1⟩ := h1
      obtain ⟨ρ2, e2, h2⟩ := cell (hl k List.mem_cons_self) h1
      obtain ⟨ρ3, e3, h3⟩ := ih ρ2 (fun j hj => hl j (List.mem_cons_of_mem _ hj)) ⟨_, h2⟩
      exact ⟨ρ3, by rw [List.map_cons, loop_cons g1 e2]; exact e3, h3⟩
  obtain ⟨ρ', lq, K, hJ⟩ : ∃ ρ', loopF (gN 1) b_law_3 ((List.range' 0 m).map fun k => .int (0 + (k : Nat))) (.val (scrD ns) :: [.no, .no, .no, .no, .no, .no, .no, .no, .no]) = some (.nx ρ') ∧ ∃ K, JC (scrD ns) K ρ' := by
    cases m with
    | zero => exfalso; split at em <;> omega
    | succ m =>
      have e0 := (JC.mk (S0 := scrD ns) (K := .int (0 : Nat)) (v2 := .no) (v3 := .no) (v4 := .no) (v5 := .no) (v6 := .no) (v7 := .no) (v8 := .no) rfl rfl rfl rfl rfl rfl rfl)
      obtain ⟨ρ2, e2, h2⟩ := cell (k := 0) (by omega) e0
      obtain ⟨ρ3, e3, h3⟩ := lp (List.range' 1 m) ρ2 (fun k hk => by have := List.mem_range'.mp hk; omega) ⟨_, h2⟩
      refine ⟨ρ3, ?_, h3⟩
      rw [List.range'_succ, List.map_cons, loop_cons (setSl_f rfl) e2]
      exact e3
  have a2 := for_ok (b := b_law_3) (cell_range (vs := [.no, .no, .no, .no, .no, .no, .no, .no, .no]) em (by omega)) lq
  have h0 : ∃ vs, ρ' = .val (scrD ns) :: vs := by
    cases hJ
    exact ⟨_, rfl⟩
  obtain ⟨vs, rfl⟩ := h0
  refine ⟨[.val (scrD ns)], ?_⟩
  unfold F_law
  refine (run_rt (t := .dat (.bool true)) (ρ' := .val (scrD ns) :: vs) ?_).trans rfl
  unfold g_law
  show sSeq _ _ (.val (scrD ns) :: [.no, .no, .no, .no, .no, .no, .no, .no, .no]) = _
  rw [seq_nx a2]
  simp! only [setSl, List.replicate, pinS, Md.unb, VR.ap_fld1, VR.ap_pFld, VR.ap_pKey, VR.ap_keyT1]
end K24

end

section
set_option Elab.async false
set_option linter.all false
namespace VL
open PySem PySem.Spec PyProof.Rows L2
theorem fn_top {P : Program} {w : World} {K : Fg} {mg : Str → Option Value} {base : Heap} {k : Nat} {f : Addr} {fd : FuncData} {ps : List Str} {Wx : WX0} {G : Fn} (F : FnOk P w K mg base (L2N.CX P w) k f fd ps (spV K Wx 1 G))
    (hF : ∀ ns : List Int, ns.length ≤ 63 → ∃ outs, G [.val (scrD ns)] = some (.ret (.dat (.bool true)), outs)) : FnOk P w K mg base CX0 k f fd ps (spLaw K) :=
  ⟨fun vs H Q E q => F.len vs H Q E (law_imp hF q), fun A outer s H args us vs Q E hr he hb hv hs =>
    codeAny_mono (F.run A outer s H args us vs Q (fun _ _ _ => False) hr he hb hv (law_imp hF hs)) fun r s' h => by
      cases r with
      | ok c =>
        cases c <;> exact h
      | error e =>
        obtain ⟨_, _, _, _, _, _, _, _, _, _, _, _, hE⟩ := h
        exact hE.elim⟩
end VL

end

section
set_option Elab.async false
set_option linter.all false
set_option maxRecDepth 100000
set_option maxHeartbeats 0
namespace K24
open PySem PySem.Spec PyProof.Rows L2 VL SM SN
theorem all_mk {l : PySem.W.OpenLaw} {w : World} {K : PySem.W.Frag} {h : Heap} {mg : Str → Option Value} {fa : Addr} (X : K.In h) (G : h.Ns mainGlobals mg) (hfa : mg "law" = some (.ref fa))
    {od1 an1 : Option Addr} {sl1 : Array (Option Value)} {f1 : Addr} {oc1 kV1 dc1 pm1 cd1 ct1 : Value} {od2 an2 : Option Addr} {sl2 : Array (Option Value)} {f2 : Addr} {oc2 kV2 dc2 pm2 cd2 ct2 : Value} {od3 an3 : Option Addr} {sl3 : Array (Option Value)} {f3 : Addr} {oc3 kV3 dc3 pm3 cd3 ct3 : Value} {od4 an4 : Option Addr} {sl4 : Array (Option Value)} {f4 : Addr} {oc4 kV4 dc4 pm4 cd4 ct4 : Value} {od5 an5 : Option Addr} {sl5 : Array (Option Value)} {f5 : Addr} {oc5 kV5 dc5 pm5 cd5 ct5 : Value} {od6 an6 : Option Addr} {sl6 : Array (Option Value)} {f6 : Addr} {oc6 kV6 dc6 pm6 cd6 ct6 : Value} {od7 an7 : Option Addr} {sl7 : Array (Option Value)} {f7 : Addr} {oc7 kV7 dc7 pm7 cd7 ct7 : Value} {od8 an8 : Option Addr} {sl8 : Array (Option Value)} {f8 : Addr} {oc8 kV8 dc8 pm8 cd8 ct8 : Value} {od9 an9 : Option Addr} {sl9 : Array (Option Value)} {f9 : Addr} {oc9 kV9 dc9 pm9 cd9 ct9 : Value} {od10 an10 : Option Addr} {sl10 : Array (Option Value)} {f10 : Addr} {oc10 kV10 dc10 pm10 cd10 ct10 : Value} {od11 an11 : Option Addr} {sl11 : Array (Option Value)} {f11 : Addr} {oc11 kV11 dc11 pm11 cd11 ct11 : Value} {od12 an12 : Option Addr} {sl12 : Array (Option Value)} {f12 : Addr} {oc12 kV12 dc12 pm12 cd12 ct12 : Value} {od13 an13 : Option Addr} {sl13 : Array (Option Value)} {f13 : Addr} {oc13 kV13 dc13 pm13 cd13 ct13 : Value} {od14 an14 : Option Addr} {sl14 : Array (Option Value)} {f14 : Addr} {oc14 kV14 dc14 pm14 cd14 ct14 : Value} {od15 an15 : Option Addr} {sl15 : Array (Option Value)} {f15 : Addr} {oc15 kV15 dc15 pm15 cd15 ct15 : Value} {od16 an16 : Option Addr} {sl16 : Array (Option Value)} {f16 : Addr} {oc16 kV16 dc16 pm16 cd16 ct16 : Value} {od17 an17 : Option Addr} {sl17 : Array (Option Value)} {f17 : Addr} {oc17 kV17 dc17 pm17 cd17 ct17 : Value} {od18 an18 : Option Addr} {sl18 : Array (Option Value)} {f18 : Addr} {oc18 kV18 dc18 pm18 cd18 ct18 : Value} {od19 an19 : Option Addr} {sl19 : Array (Option Value)} {f19 : Addr} {oc19 kV19 dc19 pm19 cd19 ct19 : Value} {od20 an20 : Option Addr} {sl20 : Array (Option Value)} {f20 : Addr} {oc20 kV20 dc20 pm20 cd20 ct20 : Value} {od21 an21 : Option Addr} {sl21 : Array (Option Value)} {f21 : Addr} {oc21 kV21 dc21 pm21 cd21 ct21 : Value} {od22 an22 : Option Addr} {sl22 : Array (Option Value)} {f22 : Addr} {oc22 kV22 dc22 pm22 cd22 ct22 : Value} {od23 an23 : Option Addr} {sl23 : Array (Option Value)} {f23 : Addr} {oc23 kV23 dc23 pm23 cd23 ct23 : Value} {od24 an24 : Option Addr} {sl24 : Array (Option Value)} {f24 : Addr} {oc24 kV24 dc24 pm24 cd24 ct24 : Value} {od25 an25 : Option Addr} {sl25 : Array (Option Value)} {f25 : Addr} {oc25 kV25 dc25 pm25 cd25 ct25 : Value} {od26 an26 : Option Addr} {sl26 : Array (Option Value)} {f26 : Addr} {oc26 kV26 dc26 pm26 cd26 ct26 : Value} {od27 an27 : Option Addr} {sl27 : Array (Option Value)} {f27 : Addr} {oc27 kV27 dc27 pm27 cd27 ct27 : Value} {od28 an28 : Option Addr} {sl28 : Array (Option Value)} {f28 : Addr} {oc28 kV28 dc28 pm28 cd28 ct28 : Value} {od29 an29 : Option Addr} {sl29 : Array (Option Value)} {f29 : Addr} {oc29 kV29 dc29 pm29 cd29 ct29 : Value} {od30 an30 : Option Addr} {sl30 : Array (Option Value)} {f30 : Addr} {oc30 kV30 dc30 pm30 cd30 ct30 : Value} {od31 an31 : Option Addr} {sl31 : Array (Option Value)} {f31 : Addr} {oc31 kV31 dc31 pm31 cd31 ct31 : Value} {t1 : Addr} {es1 : Array DictEntry} {nt1 : Nat} {u1_1 : Value} {u1_2 : Value} {u1_3 : Value} {u1_4 : Value} {t2 : Addr} {es2 : Array DictEntry} {nt2 : Nat} {u2_1 : Value} {u2_2 : Value} {u2_3 : Value} {u2_4 : Value} {t3 : Addr} {es3 : Array DictEntry} {nt3 : Nat} {u3_1 : Value} {u3_2 : Value} {p1 : Addr} {op1 : Option Addr} {ip1 : Array Value} {np1 : Nat} {sp1 : Array (Option Value)} {p2 : Addr} {op2 : Option Addr} {ip2 : Array Value} {np2 : Nat} {sp2 : Array (Option Value)} {i3 : Tok} {i4 : Tok} {i5 : Tok} {p6 : Addr} {op6 : Option Addr} {ip6 : Array Value} {np6 : Nat} {sp6 : Array (Option Value)} {xc1 : Addr} {xc2 : Addr} {xc3 : Addr} {xc4 : Addr} {xc5 : Addr} {xc6 : Addr} {xc7 : Addr} {xc8 : Addr} {xc9 : Addr} {xc10 : Addr} {xc11 : Addr} {xc12 : Addr} {xc13 : Addr} {xc14 : Addr} {xc15 : Addr} {xc16 : Addr} {xc17 : Addr} {xc18 : Addr}
    (a1 : PySem.W.nsIn K mainGlobals "is_whole" = some (some (.ref f1))) (l1 : K.lookup f1 = some ⟨oc1, od1, .func (PySem.W.fnOf "is_whole" "is_whole" (defArgs st_is_whole) (defBody st_is_whole) (defScope st_is_whole) .none kV1 dc1 pm1 an1 cd1 ct1), sl1⟩) (c1 : PySem.W.codeIn K cd1 "is_whole" = true) (k1 : PySem.W.keepIn K (.ref f1) = true)
    (a2 : PySem.W.nsIn K mainGlobals "number_of" = some (some (.ref f2))) (l2 : K.lookup f2 = some ⟨oc2, od2, .func (PySem.W.fnOf "number_of" "number_of" (defArgs st_number_of) (defBody st_number_of) (defScope st_number_of) .none kV2 dc2 pm2 an2 cd2 ct2), sl2⟩) (c2 : PySem.W.codeIn K cd2 "number_of" = true) (k2 : PySem.W.keepIn K (.ref f2) = true)
    (a3 : PySem.W.nsIn K mainGlobals "showing_text" = some (some (.ref f3))) (l3 : K.lookup f3 = some ⟨oc3, od3, .func (PySem.W.fnOf "showing_text" "showing_text" (defArgs st_showing_text) (defBody st_showing_text) (defScope st_showing_text) .none kV3 dc3 pm3 an3 cd3 ct3), sl3⟩) (c3 : PySem.W.codeIn K cd3 "showing_text" = true) (k3 : PySem.W.keepIn K (.ref f3) = true)
    (a4 : PySem.W.nsIn K mainGlobals "card_text" = some (some (.ref f4))) (l4 : K.lookup f4 = some ⟨oc4, od4, .func (PySem.W.fnOf "card_text" "card_text" (defArgs st_card_text) (defBody st_card_text) (defScope st_card_text) .none kV4 dc4 pm4 an4 cd4 ct4), sl4⟩) (c4 : PySem.W.codeIn K cd4 "card_text" = true) (k4 : PySem.W.keepIn K (.ref f4) = true)
    (a5 : PySem.W.nsIn K mainGlobals "_law_bag" = some (some (.ref f5))) (l5 : K.lookup f5 = some ⟨oc5, od5, .func (PySem.W.fnOf "_law_bag" "_law_bag" (defArgs st__law_bag) (defBody st__law_bag) (defScope st__law_bag) .none kV5 dc5 pm5 an5 cd5 ct5), sl5⟩) (c5 : PySem.W.codeIn K cd5 "_law_bag" = true) (k5 : PySem.W.keepIn K (.ref f5) = true)
    (a6 : PySem.W.nsIn K mainGlobals "_law_take" = some (some (.ref f6))) (l6 : K.lookup f6 = some ⟨oc6, od6, .func (PySem.W.fnOf "_law_take" "_law_take" (defArgs st__law_take) (defBody st__law_take) (defScope st__law_take) .none kV6 dc6 pm6 an6 cd6 ct6), sl6⟩) (c6 : PySem.W.codeIn K cd6 "_law_take" = true) (k6 : PySem.W.keepIn K (.ref f6) = true)
    (a7 : PySem.W.nsIn K mainGlobals "_law_kinds" = some (some (.ref f7))) (l7 : K.lookup f7 = some ⟨oc7, od7, .func (PySem.W.fnOf "_law_kinds" "_law_kinds" (defArgs st__law_kinds) (defBody st__law_kinds) (defScope st__law_kinds) .none kV7 dc7 pm7 an7 cd7 ct7), sl7⟩) (c7 : PySem.W.codeIn K cd7 "_law_kinds" = true) (k7 : PySem.W.keepIn K (.ref f7) = true)
    (a8 : PySem.W.nsIn K mainGlobals "_law_whole" = some (some (.ref f8))) (l8 : K.lookup f8 = some ⟨oc8, od8, .func (PySem.W.fnOf "_law_whole" "_law_whole" (defArgs st__law_whole) (defBody st__law_whole) (defScope st__law_whole) .none kV8 dc8 pm8 an8 cd8 ct8), sl8⟩) (c8 : PySem.W.codeIn K cd8 "_law_whole" = true) (k8 : PySem.W.keepIn K (.ref f8) = true)
    (a9 : PySem.W.nsIn K mainGlobals "_law_number" = some (some (.ref f9))) (l9 : K.lookup f9 = some ⟨oc9, od9, .func (PySem.W.fnOf "_law_number" "_law_number" (defArgs st__law_number) (defBody st__law_number) (defScope st__law_number) .none kV9 dc9 pm9 an9 cd9 ct9), sl9⟩) (c9 : PySem.W.codeIn K cd9 "_law_number" = true) (k9 : PySem.W.keepIn K (.ref f9) = true)
    (a10 : PySem.W.nsIn K mainGlobals "_law_sign_text" = some (some (.ref f10))) (l10 : K.lookup f10 = some ⟨oc10, od10, .func (PySem.W.fnOf "_law_sign_text" "_law_sign_text" (defArgs st__law_sign_text) (defBody st__law_sign_text) (defScope st__law_sign_text) .none kV10 dc10 pm10 an10 cd10 ct10), sl10⟩) (c10 : PySem.W.codeIn K cd10 "_law_sign_text" = true) (k10 : PySem.W.keepIn K (.ref f10) = true)
    (a11 : PySem.W.nsIn K mainGlobals "_law_card_text" = some (some (.ref f11))) (l11 : K.lookup f11 = some ⟨oc11, od11, .func (PySem.W.fnOf "_law_card_text" "_law_card_text" (defArgs st__law_card_text) (defBody st__law_card_text) (defScope st__law_card_text) .none kV11 dc11 pm11 an11 cd11 ct11), sl11⟩) (c11 : PySem.W.codeIn K cd11 "_law_card_text" = true) (k11 : PySem.W.keepIn K (.ref f11) = true)
    (a12 : PySem.W.nsIn K mainGlobals "is_within" = some (some (.ref f12))) (l12 : K.lookup f12 = some ⟨oc12, od12, .func (PySem.W.fnOf "is_within" "is_within" (defArgs st_is_within) (defBody st_is_within) (defScope st_is_within) .none kV12 dc12 pm12 an12 cd12 ct12), sl12⟩) (c12 : PySem.W.codeIn K cd12 "is_within" = true) (k12 : PySem.W.keepIn K (.ref f12) = true)
    (a13 : PySem.W.nsIn K mainGlobals "sign_text" = some (some (.ref f13))) (l13 : K.lookup f13 = some ⟨oc13, od13, .func (PySem.W.fnOf "sign_text" "sign_text" (defArgs st_sign_text) (defBody st_sign_text) (defScope st_sign_text) .none kV13 dc13 pm13 an13 cd13 ct13), sl13⟩) (c13 : PySem.W.codeIn K cd13 "sign_text" = true) (k13 : PySem.W.keepIn K (.ref f13) = true)
    (a14 : PySem.W.nsIn K mainGlobals "_law_showing" = some (some (.ref f14))) (l14 : K.lookup f14 = some ⟨oc14, od14, .func (PySem.W.fnOf "_law_showing" "_law_showing" (defArgs st__law_showing) (defBody st__law_showing) (defScope st__law_showing) .none kV14 dc14 pm14 an14 cd14 ct14), sl14⟩) (c14 : PySem.W.codeIn K cd14 "_law_showing" = true) (k14 : PySem.W.keepIn K (.ref f14) = true)
    (a15 : PySem.W.nsIn K mainGlobals "_law_is_card" = some (some (.ref f15))) (l15 : K.lookup f15 = some ⟨oc15, od15, .func (PySem.W.fnOf "_law_is_card" "_law_is_card" (defArgs st__law_is_card) (defBody st__law_is_card) (defScope st__law_is_card) .none kV15 dc15 pm15 an15 cd15 ct15), sl15⟩) (c15 : PySem.W.codeIn K cd15 "_law_is_card" = true) (k15 : PySem.W.keepIn K (.ref f15) = true)
    (a16 : PySem.W.nsIn K mainGlobals "_law_card" = some (some (.ref f16))) (l16 : K.lookup f16 = some ⟨oc16, od16, .func (PySem.W.fnOf "_law_card" "_law_card" (defArgs st__law_card) (defBody st__law_card) (defScope st__law_card) .none kV16 dc16 pm16 an16 cd16 ct16), sl16⟩) (c16 : PySem.W.codeIn K cd16 "_law_card" = true) (k16 : PySem.W.keepIn K (.ref f16) = true)
    (a17 : PySem.W.nsIn K mainGlobals "_law_bent" = some (some (.ref f17))) (l17 : K.lookup f17 = some ⟨oc17, od17, .func (PySem.W.fnOf "_law_bent" "_law_bent" (defArgs st__law_bent) (defBody st__law_bent) (defScope st__law_bent) .none kV17 dc17 pm17 an17 cd17 ct17), sl17⟩) (c17 : PySem.W.codeIn K cd17 "_law_bent" = true) (k17 : PySem.W.keepIn K (.ref f17) = true)
    (a18 : PySem.W.nsIn K mainGlobals "is_showing" = some (some (.ref f18))) (l18 : K.lookup f18 = some ⟨oc18, od18, .func (PySem.W.fnOf "is_showing" "is_showing" (defArgs st_is_showing) (defBody st_is_showing) (defScope st_is_showing) .none kV18 dc18 pm18 an18 cd18 ct18), sl18⟩) (c18 : PySem.W.codeIn K cd18 "is_showing" = true) (k18 : PySem.W.keepIn K (.ref f18) = true)
    (a19 : PySem.W.nsIn K mainGlobals "is_card" = some (some (.ref f19))) (l19 : K.lookup f19 = some ⟨oc19, od19, .func (PySem.W.fnOf "is_card" "is_card" (defArgs st_is_card) (defBody st_is_card) (defScope st_is_card) .none kV19 dc19 pm19 an19 cd19 ct19), sl19⟩) (c19 : PySem.W.codeIn K cd19 "is_card" = true) (k19 : PySem.W.keepIn K (.ref f19) = true)
    (a20 : PySem.W.nsIn K mainGlobals "_law_sign" = some (some (.ref f20))) (l20 : K.lookup f20 = some ⟨oc20, od20, .func (PySem.W.fnOf "_law_sign" "_law_sign" (defArgs st__law_sign) (defBody st__law_sign) (defScope st__law_sign) .none kV20 dc20 pm20 an20 cd20 ct20), sl20⟩) (c20 : PySem.W.codeIn K cd20 "_law_sign" = true) (k20 : PySem.W.keepIn K (.ref f20) = true)
    (a21 : PySem.W.nsIn K mainGlobals "_law_read_card" = some (some (.ref f21))) (l21 : K.lookup f21 = some ⟨oc21, od21, .func (PySem.W.fnOf "_law_read_card" "_law_read_card" (defArgs st__law_read_card) (defBody st__law_read_card) (defScope st__law_read_card) .none kV21 dc21 pm21 an21 cd21 ct21), sl21⟩) (c21 : PySem.W.codeIn K cd21 "_law_read_card" = true) (k21 : PySem.W.keepIn K (.ref f21) = true)
    (a22 : PySem.W.nsIn K mainGlobals "is_sign" = some (some (.ref f22))) (l22 : K.lookup f22 = some ⟨oc22, od22, .func (PySem.W.fnOf "is_sign" "is_sign" (defArgs st_is_sign) (defBody st_is_sign) (defScope st_is_sign) .none kV22 dc22 pm22 an22 cd22 ct22), sl22⟩) (c22 : PySem.W.codeIn K cd22 "is_sign" = true) (k22 : PySem.W.keepIn K (.ref f22) = true)
    (a23 : PySem.W.nsIn K mainGlobals "showing_in" = some (some (.ref f23))) (l23 : K.lookup f23 = some ⟨oc23, od23, .func (PySem.W.fnOf "showing_in" "showing_in" (defArgs st_showing_in) (defBody st_showing_in) (defScope st_showing_in) .none kV23 dc23 pm23 an23 cd23 ct23), sl23⟩) (c23 : PySem.W.codeIn K cd23 "showing_in" = true) (k23 : PySem.W.keepIn K (.ref f23) = true)
    (a24 : PySem.W.nsIn K mainGlobals "read_card" = some (some (.ref f24))) (l24 : K.lookup f24 = some ⟨oc24, od24, .func (PySem.W.fnOf "read_card" "read_card" (defArgs st_read_card) (defBody st_read_card) (defScope st_read_card) .none kV24 dc24 pm24 an24 cd24 ct24), sl24⟩) (c24 : PySem.W.codeIn K cd24 "read_card" = true) (k24 : PySem.W.keepIn K (.ref f24) = true)
    (a25 : PySem.W.nsIn K mainGlobals "_law_read_sign" = some (some (.ref f25))) (l25 : K.lookup f25 = some ⟨oc25, od25, .func (PySem.W.fnOf "_law_read_sign" "_law_read_sign" (defArgs st__law_read_sign) (defBody st__law_read_sign) (defScope st__law_read_sign) .none kV25 dc25 pm25 an25 cd25 ct25), sl25⟩) (c25 : PySem.W.codeIn K cd25 "_law_read_sign" = true) (k25 : PySem.W.keepIn K (.ref f25) = true)
    (a26 : PySem.W.nsIn K mainGlobals "sign_in" = some (some (.ref f26))) (l26 : K.lookup f26 = some ⟨oc26, od26, .func (PySem.W.fnOf "sign_in" "sign_in" (defArgs st_sign_in) (defBody st_sign_in) (defScope st_sign_in) .none kV26 dc26 pm26 an26 cd26 ct26), sl26⟩) (c26 : PySem.W.codeIn K cd26 "sign_in" = true) (k26 : PySem.W.keepIn K (.ref f26) = true)
    (a27 : PySem.W.nsIn K mainGlobals "read_showing" = some (some (.ref f27))) (l27 : K.lookup f27 = some ⟨oc27, od27, .func (PySem.W.fnOf "read_showing" "read_showing" (defArgs st_read_showing) (defBody st_read_showing) (defScope st_read_showing) .none kV27 dc27 pm27 an27 cd27 ct27), sl27⟩) (c27 : PySem.W.codeIn K cd27 "read_showing" = true) (k27 : PySem.W.keepIn K (.ref f27) = true)
    (a28 : PySem.W.nsIn K mainGlobals "read_sign" = some (some (.ref f28))) (l28 : K.lookup f28 = some ⟨oc28, od28, .func (PySem.W.fnOf "read_sign" "read_sign" (defArgs st_read_sign) (defBody st_read_sign) (defScope st_read_sign) .none kV28 dc28 pm28 an28 cd28 ct28), sl28⟩) (c28 : PySem.W.codeIn K cd28 "read_sign" = true) (k28 : PySem.W.keepIn K (.ref f28) = true)
    (a29 : PySem.W.nsIn K mainGlobals "_law_read_by" = some (some (.ref f29))) (l29 : K.lookup f29 = some ⟨oc29, od29, .func (PySem.W.fnOf "_law_read_by" "_law_read_by" (defArgs st__law_read_by) (defBody st__law_read_by) (defScope st__law_read_by) .none kV29 dc29 pm29 an29 cd29 ct29), sl29⟩) (c29 : PySem.W.codeIn K cd29 "_law_read_by" = true) (k29 : PySem.W.keepIn K (.ref f29) = true)
    (a30 : PySem.W.nsIn K mainGlobals "_law_right" = some (some (.ref f30))) (l30 : K.lookup f30 = some ⟨oc30, od30, .func (PySem.W.fnOf "_law_right" "_law_right" (defArgs st__law_right) (defBody st__law_right) (defScope st__law_right) .none kV30 dc30 pm30 an30 cd30 ct30), sl30⟩) (c30 : PySem.W.codeIn K cd30 "_law_right" = true) (k30 : PySem.W.keepIn K (.ref f30) = true)
    (a31 : PySem.W.nsIn K mainGlobals "law" = some (some (.ref f31))) (l31 : K.lookup f31 = some ⟨oc31, od31, .func (PySem.W.fnOf "law" "law" (defArgs st_law) (defBody st_law) (defScope st_law) .none kV31 dc31 pm31 an31 cd31 ct31), sl31⟩) (c31 : PySem.W.codeIn K cd31 "law" = true) (k31 : PySem.W.keepIn K (.ref f31) = true)
    (z1 : PySem.W.nsIn K mainGlobals "ValueError" = some none)
    (z2 : PySem.W.nsIn K mainGlobals "all" = some none)
    (z3 : PySem.W.nsIn K mainGlobals "bool" = some none)
    (z4 : PySem.W.nsIn K mainGlobals "int" = some none)
    (z5 : PySem.W.nsIn K mainGlobals "isinstance" = some none)
    (z6 : PySem.W.nsIn K mainGlobals "len" = some none)
    (z7 : PySem.W.nsIn K mainGlobals "min" = some none)
    (z8 : PySem.W.nsIn K mainGlobals "range" = some none)
    (z9 : PySem.W.nsIn K mainGlobals "str" = some none)
    (z10 : PySem.W.nsIn K mainGlobals "tuple" = some none)
    (x1 : PySem.W.nsIn K mainGlobals "LETTERS" = some (some (.ref t1))) (y1 : K.lookup t1 = some ⟨.type "dict", none, .dict es1 nt1, #[]⟩) (v1 : PySem.W.KeysLit w.params es1.toList)
    (w1_1 : PySem.W.nsIn K t1 "in" = some (some u1_1)) (r1_1 : absV u1_1 = some (V.str "b"))
    (w1_2 : PySem.W.nsIn K t1 "out" = some (some u1_2)) (r1_2 : absV u1_2 = some (V.str "s"))
    (w1_3 : PySem.W.nsIn K t1 "chin" = some (some u1_3)) (r1_3 : absV u1_3 = some (V.str "c"))
    (w1_4 : PySem.W.nsIn K t1 "brow" = some (some u1_4)) (r1_4 : absV u1_4 = some (V.str "w"))
    (x2 : PySem.W.nsIn K mainGlobals "PARTS" = some (some (.ref t2))) (y2 : K.lookup t2 = some ⟨.type "dict", none, .dict es2 nt2, #[]⟩) (v2 : PySem.W.KeysLit w.params es2.toList)
    (lo2 : (t2 == sysModules) = false) (kn2 : es2.toList.map (fun e => keyN e.key) = tb_PARTS.map fun q => some q.1)
    (w2_1 : PySem.W.nsIn K t2 "b" = some (some u2_1)) (r2_1 : absV u2_1 = some (V.str "in"))
    (w2_2 : PySem.W.nsIn K t2 "s" = some (some u2_2)) (r2_2 : absV u2_2 = some (V.str "out"))
    (w2_3 : PySem.W.nsIn K t2 "c" = some (some u2_3)) (r2_3 : absV u2_3 = some (V.str "chin"))
    (w2_4 : PySem.W.nsIn K t2 "w" = some (some u2_4)) (r2_4 : absV u2_4 = some (V.str "brow"))
    (x3 : PySem.W.nsIn K mainGlobals "LINKS" = some (some (.ref t3))) (y3 : K.lookup t3 = some ⟨.type "dict", none, .dict es3 nt3, #[]⟩) (v3 : PySem.W.KeysLit w.params es3.toList)
    (lo3 : (t3 == sysModules) = false) (kn3 : es3.toList.map (fun e => keyN e.key) = tb_LINKS.map fun q => some q.1)
    (w3_1 : PySem.W.nsIn K t3 "bought" = some (some u3_1)) (r3_1 : absV u3_1 = some (V.str "from"))
    (w3_2 : PySem.W.nsIn K t3 "sold" = some (some u3_2)) (r3_2 : absV u3_2 = some (V.str "to"))
    (p1a : PySem.W.nsIn K mainGlobals "PALMS" = some (some (.ref p1))) (p1b : K.lookup p1 = some ⟨.type "tuple", op1, .seq ip1 np1, sp1⟩) (p1c : ip1.toList.map absV = [some (V.str "in"), some (V.str "out")])
    (p2a : PySem.W.nsIn K mainGlobals "PLACES" = some (some (.ref p2))) (p2b : K.lookup p2 = some ⟨.type "tuple", op2, .seq ip2 np2, sp2⟩) (p2c : ip2.toList.map absV = [some (V.str "chin"), some (V.str "brow")])
    (j3 : PySem.W.nsIn K mainGlobals "MOST_MEMBERS" = some (some (.int 12 i3)))
    (j4 : PySem.W.nsIn K mainGlobals "MOST_PRICE" = some (some (.int 1000000000 i4)))
    (j5 : PySem.W.nsIn K mainGlobals "MOST_COUNT" = some (some (.int 1000000 i5)))
    (p6a : PySem.W.nsIn K mainGlobals "SIDES" = some (some (.ref p6))) (p6b : K.lookup p6 = some ⟨.type "tuple", op6, .seq ip6 np6, sp6⟩) (p6c : ip6.toList.map absV = [some (V.str "bought"), some (V.str "sold")])
    (xg1 : PySem.W.nsIn K mainGlobals "BadNumber" = some (some (.ref xc1)))
    (xg2 : PySem.W.nsIn K mainGlobals "Closed" = some (some (.ref xc2)))
    (xg3 : PySem.W.nsIn K mainGlobals "NoBargain" = some (some (.ref xc3)))
    (xg4 : PySem.W.nsIn K mainGlobals "NoMember" = some (some (.ref xc4)))
    (xg5 : PySem.W.nsIn K mainGlobals "NoOffer" = some (some (.ref xc5)))
    (xg6 : PySem.W.nsIn K mainGlobals "NoQuarrel" = some (some (.ref xc6)))
    (xg7 : PySem.W.nsIn K mainGlobals "NoRow" = some (some (.ref xc7)))
    (xg8 : PySem.W.nsIn K mainGlobals "NoSign" = some (some (.ref xc8)))
    (xg9 : PySem.W.nsIn K mainGlobals "NoText" = some (some (.ref xc9)))
    (xg10 : PySem.W.nsIn K mainGlobals "NoWay" = some (some (.ref xc10)))
    (xg11 : PySem.W.nsIn K mainGlobals "NotSeen" = some (some (.ref xc11)))
    (xg12 : PySem.W.nsIn K mainGlobals "NotTheirs" = some (some (.ref xc12)))
    (xg13 : PySem.W.nsIn K mainGlobals "NothingLeft" = some (some (.ref xc13)))
    (xg14 : PySem.W.nsIn K mainGlobals "Own" = some (some (.ref xc14)))
    (xg15 : PySem.W.nsIn K mainGlobals "TooMany" = some (some (.ref xc15)))
    (xg16 : PySem.W.nsIn K mainGlobals "Twice" = some (some (.ref xc16)))
    (xg17 : PySem.W.nsIn K mainGlobals "Unlike" = some (some (.ref xc17)))
    (xg18 : PySem.W.nsIn K mainGlobals "HallError" = some (some (.ref xc18)))
    (xt : tabB K [xc1, xc2, xc3, xc4, xc5, xc6, xc7, xc8, xc9, xc10, xc11, xc12, xc13, xc14, xc15, xc16, xc17] xc18 = true)
    : ∃ fd : FuncData, (∀ (s : Shared) (v : Value), BindsTo s fd ⟨[v], []⟩ [("script", v)]) ∧ ∀ base : Heap, K.In base → base.Ns mainGlobals mg → TbB K base mg → FnOk l.prog w K mg base CX0 9 fa fd ["script"] (spLaw K) := by
  have e := hfa.symm.trans (PySem.W.mg_of X G a31)
  cases e
  have F1 := fun_mk (st := st_is_whole) l1 c1 k1
  have b1 := F1.binds (ps := ["thing"]) fun _ _ _ _ _ _ us hl => match us, hl with | [_], _ => rfl
  have F2 := fun_mk (st := st_number_of) l2 c2 k2
  have b2 := F2.binds (ps := ["word", "most"]) fun _ _ _ _ _ _ us hl => match us, hl with | [_, _], _ => rfl
  have F3 := fun_mk (st := st_showing_text) l3 c3 k3
  have b3 := F3.binds (ps := ["showing"]) fun _ _ _ _ _ _ us hl => match us, hl with | [_], _ => rfl
  have F4 := fun_mk (st := st_card_text) l4 c4 k4
  have b4 := F4.binds (ps := ["card"]) fun _ _ _ _ _ _ us hl => match us, hl with | [_], _ => rfl
  have F5 := fun_mk (st := st__law_bag) l5 c5 k5
  have b5 := F5.binds (ps := ["script", "k"]) fun _ _ _ _ _ _ us hl => match us, hl with | [_, _], _ => rfl
  have F6 := fun_mk (st := st__law_take) l6 c6 k6
  have b6 := F6.binds (ps := ["bag", "many"]) fun _ _ _ _ _ _ us hl => match us, hl with | [_, _], _ => rfl
  have F7 := fun_mk (st := st__law_kinds) l7 c7 k7
  have b7 := F7.binds (ps := ["e"]) fun _ _ _ _ _ _ us hl => match us, hl with | [_], _ => rfl
  have F8 := fun_mk (st := st__law_whole) l8 c8 k8
  have b8 := F8.binds (ps := ["thing"]) fun _ _ _ _ _ _ us hl => match us, hl with | [_], _ => rfl
  have F9 := fun_mk (st := st__law_number) l9 c9 k9
  have b9 := F9.binds (ps := ["word", "most"]) fun _ _ _ _ _ _ us hl => match us, hl with | [_, _], _ => rfl
  have F10 := fun_mk (st := st__law_sign_text) l10 c10 k10
  have b10 := F10.binds (ps := ["sign"]) fun _ _ _ _ _ _ us hl => match us, hl with | [_], _ => rfl
  have F11 := fun_mk (st := st__law_card_text) l11 c11 k11
  have b11 := F11.binds (ps := ["card"]) fun _ _ _ _ _ _ us hl => match us, hl with | [_], _ => rfl
  have F12 := fun_mk (st := st_is_within) l12 c12 k12
  have b12 := F12.binds (ps := ["thing", "least", "most"]) fun _ _ _ _ _ _ us hl => match us, hl with | [_, _, _], _ => rfl
  have F13 := fun_mk (st := st_sign_text) l13 c13 k13
  have b13 := F13.binds (ps := ["sign"]) fun _ _ _ _ _ _ us hl => match us, hl with | [_], _ => rfl
  have F14 := fun_mk (st := st__law_showing) l14 c14 k14
  have b14 := F14.binds (ps := ["bag"]) fun _ _ _ _ _ _ us hl => match us, hl with | [_], _ => rfl
  have F15 := fun_mk (st := st__law_is_card) l15 c15 k15
  have b15 := F15.binds (ps := ["thing"]) fun _ _ _ _ _ _ us hl => match us, hl with | [_], _ => rfl
  have F16 := fun_mk (st := st__law_card) l16 c16 k16
  have b16 := F16.binds (ps := ["bag", "members"]) fun _ _ _ _ _ _ us hl => match us, hl with | [_, _], _ => rfl
  have F17 := fun_mk (st := st__law_bent) l17 c17 k17
  have b17 := F17.binds (ps := ["bag", "text", "more"]) fun _ _ _ _ _ _ us hl => match us, hl with | [_, _, _], _ => rfl
  have F18 := fun_mk (st := st_is_showing) l18 c18 k18
  have b18 := F18.binds (ps := ["thing"]) fun _ _ _ _ _ _ us hl => match us, hl with | [_], _ => rfl
  have F19 := fun_mk (st := st_is_card) l19 c19 k19
  have b19 := F19.binds (ps := ["thing"]) fun _ _ _ _ _ _ us hl => match us, hl with | [_], _ => rfl
  have F20 := fun_mk (st := st__law_sign) l20 c20 k20
  have b20 := F20.binds (ps := ["bag"]) fun _ _ _ _ _ _ us hl => match us, hl with | [_], _ => rfl
  have F21 := fun_mk (st := st__law_read_card) l21 c21 k21
  have b21 := F21.binds (ps := ["text"]) fun _ _ _ _ _ _ us hl => match us, hl with | [_], _ => rfl
  have F22 := fun_mk (st := st_is_sign) l22 c22 k22
  have b22 := F22.binds (ps := ["thing"]) fun _ _ _ _ _ _ us hl => match us, hl with | [_], _ => rfl
  have F23 := fun_mk (st := st_showing_in) l23 c23 k23
  have b23 := F23.binds (ps := ["text"]) fun _ _ _ _ _ _ us hl => match us, hl with | [_], _ => rfl
  have F24 := fun_mk (st := st_read_card) l24 c24 k24
  have b24 := F24.binds (ps := ["text"]) fun _ _ _ _ _ _ us hl => match us, hl with | [_], _ => rfl
  have F25 := fun_mk (st := st__law_read_sign) l25 c25 k25
  have b25 := F25.binds (ps := ["text"]) fun _ _ _ _ _ _ us hl => match us, hl with | [_], _ => rfl
  have F26 := fun_mk (st := st_sign_in) l26 c26 k26
  have b26 := F26.binds (ps := ["text"]) fun _ _ _ _ _ _ us hl => match us, hl with | [_], _ => rfl
  have F27 := fun_mk (st := st_read_showing) l27 c27 k27
  have b27 := F27.binds (ps := ["text"]) fun _ _ _ _ _ _ us hl => match us, hl with | [_], _ => rfl
  have F28 := fun_mk (st := st_read_sign) l28 c28 k28
  have b28 := F28.binds (ps := ["text"]) fun _ _ _ _ _ _ us hl => match us, hl with | [_], _ => rfl
  have F29 := fun_mk (st := st__law_read_by) l29 c29 k29
  have b29 := F29.binds (ps := ["way", "text"]) fun _ _ _ _ _ _ us hl => match us, hl with | [_, _], _ => rfl
  have F30 := fun_mk (st := st__law_right) l30 c30 k30
  have b30 := F30.binds (ps := ["text"]) fun _ _ _ _ _ _ us hl => match us, hl with | [_], _ => rfl
  have F31 := fun_mk (st := st_law) l31 c31 k31
  have b31 := F31.binds (ps := ["script"]) fun _ _ _ _ _ _ us hl => match us, hl with | [_], _ => rfl
  have kd1 : ∀ z d, tb_LETTERS.lookup z = some d → ∃ v, KDct K w t1 z v ∧ ∀ F, Dq K F v d := by
    intro z d hz
    refine tab_ok (tb := tb_LETTERS) [(V.str s_b), (V.str s_s), (V.str s_c), (V.str s_w)] ?_ z d hz
    exact (.cons ⟨⟨_, _, _, y1, v1, eIn ▸ w1_1, relV_abs (e_b ▸ r1_1)⟩, fun _ => .str _⟩ (.cons ⟨⟨_, _, _, y1, v1, eOut ▸ w1_2, relV_abs (e_s ▸ r1_2)⟩, fun _ => .str _⟩ (.cons ⟨⟨_, _, _, y1, v1, eChin ▸ w1_3, relV_abs (e_c ▸ r1_3)⟩, fun _ => .str _⟩ (.cons ⟨⟨_, _, _, y1, v1, eBrow ▸ w1_4, relV_abs (e_w ▸ r1_4)⟩, fun _ => .str _⟩ .nil))))
  have kd2 : ∀ z d, tb_PARTS.lookup z = some d → ∃ v, KDct K w t2 z v ∧ ∀ F, Dq K F v d := by
    intro z d hz
    refine tab_ok (tb := tb_PARTS) [(V.str sIn), (V.str sOut), (V.str sChin), (V.str sBrow)] ?_ z d hz
    exact (.cons ⟨⟨_, _, _, y2, v2, e_b ▸ w2_1, relV_abs (eIn ▸ r2_1)⟩, fun _ => .str _⟩ (.cons ⟨⟨_, _, _, y2, v2, e_s ▸ w2_2, relV_abs (eOut ▸ r2_2)⟩, fun _ => .str _⟩ (.cons ⟨⟨_, _, _, y2, v2, e_c ▸ w2_3, relV_abs (eChin ▸ r2_3)⟩, fun _ => .str _⟩ (.cons ⟨⟨_, _, _, y2, v2, e_w ▸ w2_4, relV_abs (eBrow ▸ r2_4)⟩, fun _ => .str _⟩ .nil))))
  have kg2 : (∃ es n, K.lookup t2 = some ⟨.type "dict", none, .dict es n, #[]⟩) ∧ (t2 == sysModules) = false ∧ ∀ z, tb_PARTS.lookup z = none → KMiss K w t2 z := ⟨⟨_, _, y2⟩, lo2, kmiss_tab y2 v2 lo2 kn2⟩
  have kd3 : ∀ z d, tb_LINKS.lookup z = some d → ∃ v, KDct K w t3 z v ∧ ∀ F, Dq K F v d := by
    intro z d hz
    refine tab_ok (tb := tb_LINKS) [(V.str s_from), (V.str s_to)] ?_ z d hz
    exact (.cons ⟨⟨_, _, _, y3, v3, eBought ▸ w3_1, relV_abs (e_from ▸ r3_1)⟩, fun _ => .str _⟩ (.cons ⟨⟨_, _, _, y3, v3, eSold ▸ w3_2, relV_abs (e_to ▸ r3_2)⟩, fun _ => .str _⟩ .nil))
  have kg3 : (∃ es n, K.lookup t3 = some ⟨.type "dict", none, .dict es n, #[]⟩) ∧ (t3 == sysModules) = false ∧ ∀ z, tb_LINKS.lookup z = none → KMiss K w t3 z := ⟨⟨_, _, y3⟩, lo3, kmiss_tab y3 v3 lo3 kn3⟩
  have kt1 : KTupV K p1 [(.str sIn), (.str sOut)] := ⟨[(V.str sIn), (V.str sOut)], ⟨_, _, _, p1b, rfl, rfl, tup_size (vs := [(V.str sIn), (V.str sOut)]) p1c (by decide), tup_vals (vs := [(V.str sIn), (V.str sOut)]) p1c⟩, fun F => (.cons (.str _) (.cons (.str _) .nil))⟩
  have kt2 : KTupV K p2 [(.str sChin), (.str sBrow)] := ⟨[(V.str sChin), (V.str sBrow)], ⟨_, _, _, p2b, rfl, rfl, tup_size (vs := [(V.str sChin), (V.str sBrow)]) p2c (by decide), tup_vals (vs := [(V.str sChin), (V.str sBrow)]) p2c⟩, fun F => (.cons (.str _) (.cons (.str _) .nil))⟩
  have kt6 : KTupV K p6 [(.str sBought), (.str sSold)] := ⟨[(V.str sBought), (V.str sSold)], ⟨_, _, _, p6b, rfl, rfl, tup_size (vs := [(V.str sBought), (V.str sSold)]) p6c (by decide), tup_vals (vs := [(V.str sBought), (V.str sSold)]) p6c⟩, fun F => (.cons (.str _) (.cons (.str _) .nil))⟩
  have xm1 := PySem.W.mg_of X G xg1
  have xm2 := PySem.W.mg_of X G xg2
  have xm3 := PySem.W.mg_of X G xg3
  have xm4 := PySem.W.mg_of X G xg4
  have xm5 := PySem.W.mg_of X G xg5
  have xm6 := PySem.W.mg_of X G xg6
  have xm7 := PySem.W.mg_of X G xg7
  have xm8 := PySem.W.mg_of X G xg8
  have xm9 := PySem.W.mg_of X G xg9
  have xm10 := PySem.W.mg_of X G xg10
  have xm11 := PySem.W.mg_of X G xg11
  have xm12 := PySem.W.mg_of X G xg12
  have xm13 := PySem.W.mg_of X G xg13
  have xm14 := PySem.W.mg_of X G xg14
  have xm15 := PySem.W.mg_of X G xg15
  have xm16 := PySem.W.mg_of X G xg16
  have xm17 := PySem.W.mg_of X G xg17
  have xm18 := PySem.W.mg_of X G xg18
  have tbk : TabOk K mg [(SM.s_BadNumber, xc1), (SM.s_Closed, xc2), (SM.s_NoBargain, xc3), (SM.s_NoMember, xc4), (SM.s_NoOffer, xc5), (SM.s_NoQuarrel, xc6), (SM.s_NoRow, xc7), (SM.s_NoSign, xc8), (SM.s_NoText, xc9), (SM.s_NoWay, xc10), (SM.s_NotSeen, xc11), (SM.s_NotTheirs, xc12), (SM.s_NothingLeft, xc13), (SM.s_Own, xc14), (SM.s_TooMany, xc15), (SM.s_Twice, xc16), (SM.s_Unlike, xc17)] xc18 := tab_of (fun y ay h => by
    simp only [List.mem_cons, List.not_mem_nil, or_false, Prod.mk.injEq] at h
    rcases h with ⟨rfl, rfl⟩ | ⟨rfl, rfl⟩ | ⟨rfl, rfl⟩ | ⟨rfl, rfl⟩ | ⟨rfl, rfl⟩ | ⟨rfl, rfl⟩ | ⟨rfl, rfl⟩ | ⟨rfl, rfl⟩ | ⟨rfl, rfl⟩ | ⟨rfl, rfl⟩ | ⟨rfl, rfl⟩ | ⟨rfl, rfl⟩ | ⟨rfl, rfl⟩ | ⟨rfl, rfl⟩ | ⟨rfl, rfl⟩ | ⟨rfl, rfl⟩ | ⟨rfl, rfl⟩
    · exact SM.e_BadNumber ▸ xm1
    · exact SM.e_Closed ▸ xm2
    · exact SM.e_NoBargain ▸ xm3
    · exact SM.e_NoMember ▸ xm4
    · exact SM.e_NoOffer ▸ xm5
    · exact SM.e_NoQuarrel ▸ xm6
    · exact SM.e_NoRow ▸ xm7
    · exact SM.e_NoSign ▸ xm8
    · exact SM.e_NoText ▸ xm9
    · exact SM.e_NoWay ▸ xm10
    · exact SM.e_NotSeen ▸ xm11
    · exact SM.e_NotTheirs ▸ xm12
    · exact SM.e_NothingLeft ▸ xm13
    · exact SM.e_Own ▸ xm14
    · exact SM.e_TooMany ▸ xm15
    · exact SM.e_Twice ▸ xm16
    · exact SM.e_Unlike ▸ xm17) xt
  have A : All K w mg ⟨f1, PySem.W.fnOf "is_whole" "is_whole" (defArgs st_is_whole) (defBody st_is_whole) (defScope st_is_whole) .none kV1 dc1 pm1 an1 cd1 ct1, f2, PySem.W.fnOf "number_of" "number_of" (defArgs st_number_of) (defBody st_number_of) (defScope st_number_of) .none kV2 dc2 pm2 an2 cd2 ct2, f3, PySem.W.fnOf "showing_text" "showing_text" (defArgs st_showing_text) (defBody st_showing_text) (defScope st_showing_text) .none kV3 dc3 pm3 an3 cd3 ct3, f4, PySem.W.fnOf "card_text" "card_text" (defArgs st_card_text) (defBody st_card_text) (defScope st_card_text) .none kV4 dc4 pm4 an4 cd4 ct4, f5, PySem.W.fnOf "_law_bag" "_law_bag" (defArgs st__law_bag) (defBody st__law_bag) (defScope st__law_bag) .none kV5 dc5 pm5 an5 cd5 ct5, f6, PySem.W.fnOf "_law_take" "_law_take" (defArgs st__law_take) (defBody st__law_take) (defScope st__law_take) .none kV6 dc6 pm6 an6 cd6 ct6, f7, PySem.W.fnOf "_law_kinds" "_law_kinds" (defArgs st__law_kinds) (defBody st__law_kinds) (defScope st__law_kinds) .none kV7 dc7 pm7 an7 cd7 ct7, f8, PySem.W.fnOf "_law_whole" "_law_whole" (defArgs st__law_whole) (defBody st__law_whole) (defScope st__law_whole) .none kV8 dc8 pm8 an8 cd8 ct8, f9, PySem.W.fnOf "_law_number" "_law_number" (defArgs st__law_number) (defBody st__law_number) (defScope st__law_number) .none kV9 dc9 pm9 an9 cd9 ct9, f10, PySem.W.fnOf "_law_sign_text" "_law_sign_text" (defArgs st__law_sign_text) (defBody st__law_sign_text) (defScope st__law_sign_text) .none kV10 dc10 pm10 an10 cd10 ct10, f11, PySem.W.fnOf "_law_card_text" "_law_card_text" (defArgs st__law_card_text) (defBody st__law_card_text) (defScope st__law_card_text) .none kV11 dc11 pm11 an11 cd11 ct11, f12, PySem.W.fnOf "is_within" "is_within" (defArgs st_is_within) (defBody st_is_within) (defScope st_is_within) .none kV12 dc12 pm12 an12 cd12 ct12, f13, PySem.W.fnOf "sign_text" "sign_text" (defArgs st_sign_text) (defBody st_sign_text) (defScope st_sign_text) .none kV13 dc13 pm13 an13 cd13 ct13, f14, PySem.W.fnOf "_law_showing" "_law_showing" (defArgs st__law_showing) (defBody st__law_showing) (defScope st__law_showing) .none kV14 dc14 pm14 an14 cd14 ct14, f15, PySem.W.fnOf "_law_is_card" "_law_is_card" (defArgs st__law_is_card) (defBody st__law_is_card) (defScope st__law_is_card) .none kV15 dc15 pm15 an15 cd15 ct15, f16, PySem.W.fnOf "_law_card" "_law_card" (defArgs st__law_card) (defBody st__law_card) (defScope st__law_card) .none kV16 dc16 pm16 an16 cd16 ct16, f17, PySem.W.fnOf "_law_bent" "_law_bent" (defArgs st__law_bent) (defBody st__law_bent) (defScope st__law_bent) .none kV17 dc17 pm17 an17 cd17 ct17, f18, PySem.W.fnOf "is_showing" "is_showing" (defArgs st_is_showing) (defBody st_is_showing) (defScope st_is_showing) .none kV18 dc18 pm18 an18 cd18 ct18, f19, PySem.W.fnOf "is_card" "is_card" (defArgs st_is_card) (defBody st_is_card) (defScope st_is_card) .none kV19 dc19 pm19 an19 cd19 ct19, f20, PySem.W.fnOf "_law_sign" "_law_sign" (defArgs st__law_sign) (defBody st__law_sign) (defScope st__law_sign) .none kV20 dc20 pm20 an20 cd20 ct20, f21, PySem.W.fnOf "_law_read_card" "_law_read_card" (defArgs st__law_read_card) (defBody st__law_read_card) (defScope st__law_read_card) .none kV21 dc21 pm21 an21 cd21 ct21, f22, PySem.W.fnOf "is_sign" "is_sign" (defArgs st_is_sign) (defBody st_is_sign) (defScope st_is_sign) .none kV22 dc22 pm22 an22 cd22 ct22, f23, PySem.W.fnOf "showing_in" "showing_in" (defArgs st_showing_in) (defBody st_showing_in) (defScope st_showing_in) .none kV23 dc23 pm23 an23 cd23 ct23, f24, PySem.W.fnOf "read_card" "read_card" (defArgs st_read_card) (defBody st_read_card) (defScope st_read_card) .none kV24 dc24 pm24 an24 cd24 ct24, f25, PySem.W.fnOf "_law_read_sign" "_law_read_sign" (defArgs st__law_read_sign) (defBody st__law_read_sign) (defScope st__law_read_sign) .none kV25 dc25 pm25 an25 cd25 ct25, f26, PySem.W.fnOf "sign_in" "sign_in" (defArgs st_sign_in) (defBody st_sign_in) (defScope st_sign_in) .none kV26 dc26 pm26 an26 cd26 ct26, f27, PySem.W.fnOf "read_showing" "read_showing" (defArgs st_read_showing) (defBody st_read_showing) (defScope st_read_showing) .none kV27 dc27 pm27 an27 cd27 ct27, f28, PySem.W.fnOf "read_sign" "read_sign" (defArgs st_read_sign) (defBody st_read_sign) (defScope st_read_sign) .none kV28 dc28 pm28 an28 cd28 ct28, f29, PySem.W.fnOf "_law_read_by" "_law_read_by" (defArgs st__law_read_by) (defBody st__law_read_by) (defScope st__law_read_by) .none kV29 dc29 pm29 an29 cd29 ct29, f30, PySem.W.fnOf "_law_right" "_law_right" (defArgs st__law_right) (defBody st__law_right) (defScope st__law_right) .none kV30 dc30 pm30 an30 cd30 ct30, fa, PySem.W.fnOf "law" "law" (defArgs st_law) (defBody st_law) (defScope st_law) .none kV31 dc31 pm31 an31 cd31 ct31, t1, t2, t3, p1, p2, p6, xc1, xc2, xc3, xc4, xc5, xc6, xc7, xc8, xc9, xc10, xc11, xc12, xc13, xc14, xc15, xc16, xc17, xc18⟩ := ⟨F1, PySem.W.mg_of X G a1, b1, F2, PySem.W.mg_of X G a2, b2, F3, PySem.W.mg_of X G a3, b3, F4, PySem.W.mg_of X G a4, b4, F5, PySem.W.mg_of X G a5, b5, F6, PySem.W.mg_of X G a6, b6, F7, PySem.W.mg_of X G a7, b7, F8, PySem.W.mg_of X G a8, b8, F9, PySem.W.mg_of X G a9, b9, F10, PySem.W.mg_of X G a10, b10, F11, PySem.W.mg_of X G a11, b11, F12, PySem.W.mg_of X G a12, b12, F13, PySem.W.mg_of X G a13, b13, F14, PySem.W.mg_of X G a14, b14, F15, PySem.W.mg_of X G a15, b15, F16, PySem.W.mg_of X G a16, b16, F17, PySem.W.mg_of X G a17, b17, F18, PySem.W.mg_of X G a18, b18, F19, PySem.W.mg_of X G a19, b19, F20, PySem.W.mg_of X G a20, b20, F21, PySem.W.mg_of X G a21, b21, F22, PySem.W.mg_of X G a22, b22, F23, PySem.W.mg_of X G a23, b23, F24, PySem.W.mg_of X G a24, b24, F25, PySem.W.mg_of X G a25, b25, F26, PySem.W.mg_of X G a26, b26, F27, PySem.W.mg_of X G a27, b27, F28, PySem.W.mg_of X G a28, b28, F29, PySem.W.mg_of X G a29, b29, F30, PySem.W.mg_of X G a30, b30, F31, PySem.W.mg_of X G a31, b31, PySem.W.mg_none_of X G z1, PySem.W.mg_none_of X G z2, PySem.W.mg_none_of X G z3, PySem.W.mg_none_of X G z4, PySem.W.mg_none_of X G z5, PySem.W.mg_none_of X G z6, PySem.W.mg_none_of X G z7, PySem.W.mg_none_of X G z8, PySem.W.mg_none_of X G z9, PySem.W.mg_none_of X G z10, PySem.W.mg_of X G x1, kd1, PySem.W.mg_of X G x2, kd2, kg2, PySem.W.mg_of X G x3, kd3, kg3, PySem.W.mg_of X G p1a, kt1, PySem.W.mg_of X G p2a, kt2, ⟨_, PySem.W.mg_of X G j3⟩, ⟨_, PySem.W.mg_of X G j4⟩, ⟨_, PySem.W.mg_of X G j5⟩, PySem.W.mg_of X G p6a, kt6, xm1, xm2, xm3, xm4, xm5, xm6, xm7, xm8, xm9, xm10, xm11, xm12, xm13, xm14, xm15, xm16, xm17, xm18, tbk⟩
  exact ⟨_, fun s v => .of_eq rfl, fun base _ _ hB => fn_top (ok_law A) law_true⟩
end K24
theorem PySem.W.Fast.te11949191756896952533 : True := trivial
open PySem PySem.W PyProof.Rows
set_option maxRecDepth 100000 in
set_option maxHeartbeats 0 in
theorem PySem.Challenge.cw_palmhall_k24_signs_and_cards_as_texts_holds : PySem.Challenge.rw_palmhall_k24_signs_and_cards_as_texts.Holds := by
  w_on; o_law; k_head; (case hw => w_witness2)
  k_fill
  refine VL.walk (l := PySem.Challenge.rw_palmhall_k24_signs_and_cards_as_texts) (k := 9) rfl rfl ⟨rfl, by decide, by decide⟩ (fun w h Y => PySem.W.kIn_of Y) ?T ?F
  case T => intro w; kernel_rfl
  case F =>
    intro w mg fa h KX G hmg
    refine' K24.all_mk KX G hmg ?a1 ?l1 ?c1 ?k1 ?a2 ?l2 ?c2 ?k2 ?a3 ?l3 ?c3 ?k3 ?a4 ?l4 ?c4 ?k4 ?a5 ?l5 ?c5 ?k5 ?a6 ?l6 ?c6 ?k6 ?a7 ?l7 ?c7 ?k7 ?a8 ?l8 ?c8 ?k8 ?a9 ?l9 ?c9 ?k9 ?a10 ?l10 ?c10 ?k10 ?a11 ?l11 ?c11 ?k11 ?a12 ?l12 ?c12 ?k12 ?a13 ?l13 ?c13 ?k13 ?a14 ?l14 ?c14 ?k14 ?a15 ?l15 ?c15 ?k15 ?a16 ?l16 ?c16 ?k16 ?a17 ?l17 ?c17 ?k17 ?a18 ?l18 ?c18 ?k18 ?a19 ?l19 ?c19 ?k19 ?a20 ?l20 ?c20 ?k20 ?a21 ?l21 ?c21 ?k21 ?a22 ?l22 ?c22 ?k22 ?a23 ?l23 ?c23 ?k23 ?a24 ?l24 ?c24 ?k24 ?a25 ?l25 ?c25 ?k25 ?a26 ?l26 ?c26 ?k26 ?a27 ?l27 ?c27 ?k27 ?a28 ?l28 ?c28 ?k28 ?a29 ?l29 ?c29 ?k29 ?a30 ?l30 ?c30 ?k30 ?a31 ?l31 ?c31 ?k31 ?z1 ?z2 ?z3 ?z4 ?z5 ?z6 ?z7 ?z8 ?z9 ?z10 ?x1 ?y1 ?v1 ?w1_1 ?r1_1 ?w1_2 ?r1_2 ?w1_3 ?r1_3 ?w1_4 ?r1_4 ?x2 ?y2 ?v2 ?lo2 ?kn2 ?w2_1 ?r2_1 ?w2_2 ?r2_2 ?w2_3 ?r2_3 ?w2_4 ?r2_4 ?x3 ?y3 ?v3 ?lo3 ?kn3 ?w3_1 ?r3_1 ?w3_2 ?r3_2 ?p1a ?p1b ?p1c ?p2a ?p2b ?p2c ?j3 ?j4 ?j5 ?p6a ?p6b ?p6c ?xg1 ?xg2 ?xg3 ?xg4 ?xg5 ?xg6 ?xg7 ?xg8 ?xg9 ?xg10 ?xg11 ?xg12 ?xg13 ?xg14 ?xg15 ?xg16 ?xg17 ?xg18 ?xt
    (case a1 => k_is)
    (case l1 => k_is)
    (case c1 => k_is)
    (case k1 => k_is)
    (case a2 => k_is)
    (case l2 => k_is)
    (case c2 => k_is)
    (case k2 => k_is)
    (case a3 => k_is)
    (case l3 => k_is)
    (case c3 => k_is)
    (case k3 => k_is)
    (case a4 => k_is)
    (case l4 => k_is)
    (case c4 => k_is)
    (case k4 => k_is)
    (case a5 => k_is)
    (case l5 => k_is)
    (case c5 => k_is)
    (case k5 => k_is)
    (case a6 => k_is)
    (case l6 => k_is)
    (case c6 => k_is)
    (case k6 => k_is)
    (case a7 => k_is)
    (case l7 => k_is)
    (case c7 => k_is)
    (case k7 => k_is)
    (case a8 => k_is)
    (case l8 => k_is)
    (case c8 => k_is)
    (case k8 => k_is)
    (case a9 => k_is)
    (case l9 => k_is)
    (case c9 => k_is)
    (case k9 => k_is)
    (case a10 => k_is)
    (case l10 => k_is)
    (case c10 => k_is)
    (case k10 => k_is)
    (case a11 => k_is)
    (case l11 => k_is)
    (case c11 => k_is)
    (case k11 => k_is)
    (case a12 => k_is)
    (case l12 => k_is)
    (case c12 => k_is)
    (case k12 => k_is)
    (case a13 => k_is)
    (case l13 => k_is)
    (case c13 => k_is)
    (case k13 => k_is)
    (case a14 => k_is)
    (case l14 => k_is)
    (case c14 => k_is)
    (case k14 => k_is)
    (case a15 => k_is)
    (case l15 => k_is)
    (case c15 => k_is)
    (case k15 => k_is)
    (case a16 => k_is)
    (case l16 => k_is)
    (case c16 => k_is)
    (case k16 => k_is)
    (case a17 => k_is)
    (case l17 => k_is)
    (case c17 => k_is)
    (case k17 => k_is)
    (case a18 => k_is)
    (case l18 => k_is)
    (case c18 => k_is)
    (case k18 => k_is)
    (case a19 => k_is)
    (case l19 => k_is)
    (case c19 => k_is)
    (case k19 => k_is)
    (case a20 => k_is)
    (case l20 => k_is)
    (case c20 => k_is)
    (case k20 => k_is)
    (case a21 => k_is)
    (case l21 => k_is)
    (case c21 => k_is)
    (case k21 => k_is)
    (case a22 => k_is)
    (case l22 => k_is)
    (case c22 => k_is)
    (case k22 => k_is)
    (case a23 => k_is)
    (case l23 => k_is)
    (case c23 => k_is)
    (case k23 => k_is)
    (case a24 => k_is)
    (case l24 => k_is)
    (case c24 => k_is)
    (case k24 => k_is)
    (case a25 => k_is)
    (case l25 => k_is)
    (case c25 => k_is)
    (case k25 => k_is)
    (case a26 => k_is)
    (case l26 => k_is)
    (case c26 => k_is)
    (case k26 => k_is)
    (case a27 => k_is)
    (case l27 => k_is)
    (case c27 => k_is)
    (case k27 => k_is)
    (case a28 => k_is)
    (case l28 => k_is)
    (case c28 => k_is)
    (case k28 => k_is)
    (case a29 => k_is)
    (case l29 => k_is)
    (case c29 => k_is)
    (case k29 => k_is)
    (case a30 => k_is)
    (case l30 => k_is)
    (case c30 => k_is)
    (case k30 => k_is)
    (case a31 => k_is)
    (case l31 => k_is)
    (case c31 => k_is)
    (case k31 => k_is)
    (case z1 => k_is)
    (case z2 => k_is)
    (case z3 => k_is)
    (case z4 => k_is)
    (case z5 => k_is)
    (case z6 => k_is)
    (case z7 => k_is)
    (case z8 => k_is)
    (case z9 => k_is)
    (case z10 => k_is)
    (case x1 => k_is)
    (case y1 => k_is)
    (case v1 => repeat' (first | exact trivial | exact ⟨_, _, rfl, rfl⟩ | constructor))
    (case w1_1 => k_is)
    (case r1_1 => rfl)
    (case w1_2 => k_is)
    (case r1_2 => rfl)
    (case w1_3 => k_is)
    (case r1_3 => rfl)
    (case w1_4 => k_is)
    (case r1_4 => rfl)
    (case x2 => k_is)
    (case y2 => k_is)
    (case v2 => repeat' (first | exact trivial | exact ⟨_, _, rfl, rfl⟩ | constructor))
    (case lo2 => rfl)
    (case kn2 => rfl)
    (case w2_1 => k_is)
    (case r2_1 => rfl)
    (case w2_2 => k_is)
    (case r2_2 => rfl)
    (case w2_3 => k_is)
    (case r2_3 => rfl)
    (case w2_4 => k_is)
    (case r2_4 => rfl)
    (case x3 => k_is)
    (case y3 => k_is)
    (case v3 => repeat' (first | exact trivial | exact ⟨_, _, rfl, rfl⟩ | constructor))
    (case lo3 => rfl)
    (case kn3 => rfl)
    (case w3_1 => k_is)
    (case r3_1 => rfl)
    (case w3_2 => k_is)
    (case r3_2 => rfl)
    (case p1a => k_is)
    (case p1b => k_is)
    (case p1c => rfl)
    (case p2a => k_is)
    (case p2b => k_is)
    (case p2c => rfl)
    (case j3 => k_is)
    (case j4 => k_is)
    (case j5 => k_is)
    (case p6a => k_is)
    (case p6b => k_is)
    (case p6c => rfl)
    (case xg1 => k_is)
    (case xg2 => k_is)
    (case xg3 => k_is)
    (case xg4 => k_is)
    (case xg5 => k_is)
    (case xg6 => k_is)
    (case xg7 => k_is)
    (case xg8 => k_is)
    (case xg9 => k_is)
    (case xg10 => k_is)
    (case xg11 => k_is)
    (case xg12 => k_is)
    (case xg13 => k_is)
    (case xg14 => k_is)
    (case xg15 => k_is)
    (case xg16 => k_is)
    (case xg17 => k_is)
    (case xg18 => k_is)
    (case xt => kernel_rfl)

end
