import PyProof.Rows.All
import Wide.All
import OpenK.AllK
import Wide.FinOn
import HandS.ForMost
import HandS.ForExc
import HandS.Deep
import HandS.CallSlots
import HandS.Lambda
import KE.KNest
import HandS.TupAny
import HandS.Wide
import HandS.IsInst
import HandS.Walk
import HandS.Zip
import HandS.Text
import KE.GoesEnum
import HandS.More
import HandS.EndTab
import HandS.Style
import HandS.SetFor
import KE.SortData
import KE.KDictZip
import PyProof.ListNew
import KE.KDictDisplayH
import HandS.SortInts
import KE.DataMinMax
import HandS.Flow
import HandS.HotCalls
import HandS.ExcIs
import KE.DataFind
import KE.SortKeyHeap
import HandS.SortKw
import PySem.Challenge.RW_palmhall_k08_cards_put_together
section
set_option Elab.async false
set_option linter.all false
set_option maxRecDepth 100000
/-! VL: a layer of values over HandS. Frozen data are PyData (F, the frozen part of the heap); a local may own a tree of lists, dicts, tuples, instances. -/
namespace VL
open PySem PySem.Spec PyProof.Rows L2

abbrev Fg := PySem.W.Frag
abbrev Sg := List (Option V)
abbrev FP := Nat → List Addr
inductive Tr where
  | dat (d : PyData)
  | tup (ts : List Tr)
  | lst (ts : List Tr)
  | dk (kvs : List (Key × Tr))
  | dt (kvs : List (List Key × Tr))
  | ins (c : Str) (fs : List (Str × Tr))
  /-- dicts that are walked and no more written -/
  | fk (kvs : List (Key × PyData))
  | ft (kvs : List (List Key × PyData))
  /-- a value that is known, of no meaning; one that is not known -/
  | raw (v : V)
  | hole
inductive Md where
  | free | pin | lock
  /-- a pinned tree of which a local names the part at p -/
  | bor (p : List Nat)
def Md.pn : Md → Bool
  | .pin => true
  | .bor _ => true
  | _ => false
inductive Sl where
  | no
  | val (d : PyData)
  | own (m : Md) (t : Tr)
  /-- the part at p of slot i, while that is borrowed at p -/
  | al (i : Nat) (p : List Nat)
abbrev Rho := List Sl

def sg (σ : Sg) (i : Nat) : Option V := (σ[i]?).getD none
theorem sg_some {σ : Sg} {i : Nat} {v : V} : sg σ i = some v ↔ σ[i]? = some (some v) := by
  unfold sg
  cases h : σ[i]? with
  | none => simp
  | some x => simp

/-! ### data under a growing frozen heap -/
theorem sqT_mono {K : Fg} {H H' : Hp} {a : Addr} {xs : List V} (e : Same H H') (h : H a = some (.tup xs)) : SqT K H' a xs := SqT.of (e _ _ h)
theorem rd_mono {H H' : Hp} {a : Addr} {u : HO} (e : Same H H') (h : Rd H a u) : Rd H' a u := by
  rcases h with h | ⟨o, h⟩
  · exact .inl (e _ _ h)
  · exact .inr ⟨o, e _ _ h⟩
/-- a tuple of the module's own top: short, or of ints (such are no keys here) -/
def isInt : PyData → Bool
  | .int _ => true
  | _ => false
def kOk (ds : List PyData) : Bool := decide (ds.length ≤ 1) || ds.all isInt
def TupA (K : Fg) (H : Hp) (a : Addr) (xs : List V) (ds : List PyData) : Prop :=
  H a = some (.tup xs) ∨ (kOk ds = true ∧ ∃ (o : Obj) (its : Array Value) (n : Nat), K.lookup a = some o ∧ o.cls = .type "tuple" ∧ o.data = .seq its n ∧ its.size ≤ sizeLine ∧ Vals xs its.toList)
theorem TupA.sq {K : Fg} {H : Hp} {a : Addr} {xs : List V} {ds : List PyData} (h : TupA K H a xs ds) : SqT K H a xs := by
  rcases h with h | ⟨_, h⟩
  · exact SqT.of h
  · exact .inr h
theorem TupA.mono {K : Fg} {H H' : Hp} {a : Addr} {xs : List V} {ds : List PyData} (h : TupA K H a xs ds) (s : Same H H') : TupA K H' a xs ds := by
  rcases h with h | h
  · exact .inl (s _ _ h)
  · exact .inr h
mutual
/-- data: as Dp of the layer, but that a list stands in H -/
inductive Dq (K : Fg) (H : Hp) : V → PyData → Prop
  | non : Dq K H .non .none
  | bl (b : Bool) : Dq K H (.bl b) (.bool b)
  | int (i : Int) : Dq K H (.int i) (.int i)
  | str (x : Str) : Dq K H (.str x) (.str x)
  | lst {a : Addr} {xs : List V} {ds : List PyData} : Rd H a (.lst xs) → DqAll K H xs ds → Dq K H (.ref a) (.list ds)
  | tups {a : Addr} {xs : List V} {ds : List PyData} : TupA K H a xs ds → DqAll K H xs ds → Dq K H (.ref a) (.tuple ds)
  /-- the script: a list of ints that may stand in the written part; told as a dict, so that nothing but its items and its length is asked -/
  | scr {a : Addr} {ns : List Int} : SqL K H a (ns.map V.int) → Dq K H (.ref a) (.dict (ns.map fun i => (.int i, .none)))
inductive DqAll (K : Fg) (H : Hp) : List V → List PyData → Prop
  | nil : DqAll K H [] []
  | cons {v : V} {vs : List V} {d : PyData} {ds : List PyData} : Dq K H v d → DqAll K H vs ds → DqAll K H (v :: vs) (d :: ds)
end
theorem Dq.tup {K : Fg} {H : Hp} {a : Addr} {xs : List V} {ds : List PyData} (h : H a = some (.tup xs)) (ha : DqAll K H xs ds) : Dq K H (.ref a) (.tuple ds) := .tups (.inl h) ha
mutual
theorem dq_dp {K : Fg} {F : Hp} : ∀ (d : PyData) (v : V), d.canLay0 = true → Dq K F v d → L2.Dp K F v d
  | .none, _, _, h => by cases h; exact .non
  | .bool b, _, _, h => by cases h; exact .bl b
  | .int i, _, _, h => by cases h; exact .int i
  | .str x, _, _, h => by cases h; exact .str x
  | .list ds, _, c, h => by
    cases h with
    | lst hs ha => exact .lst (.inl hs) (dqAll_dp ds _ (by simpa [PyData.canLay0] using c) ha)
  | .tuple ds, _, c, h => by
    cases h with
    | tups hs ha => exact .tup hs.sq (dqAll_dp ds _ (by simpa [PyData.canLay0] using c) ha)
  | .dict _, _, c, _ => by simp [PyData.canLay0] at c
theorem dqAll_dp {K : Fg} {F : Hp} : ∀ (ds : List PyData) (vs : List V), PyData.canLayAll0 ds = true → DqAll K F vs ds → L2.DpAll K F vs ds
  | [], _, _, h => by cases h; exact .nil
  | d :: ds, _, c, h => by
    have c' : d.canLay0 = true ∧ PyData.canLayAll0 ds = true := by simpa [PyData.canLayAll0] using c
    cases h with
    | cons h1 h2 => exact .cons (dq_dp d _ c'.1 h1) (dqAll_dp ds _ c'.2 h2)
end
mutual
theorem dq_mono {K : Fg} {F F' : Hp} (s : Same F F') : ∀ (d : PyData) (v : V), Dq K F v d → Dq K F' v d
  | .none, _, h => by cases h; exact .non
  | .bool b, _, h => by cases h; exact .bl b
  | .int i, _, h => by cases h; exact .int i
  | .str x, _, h => by cases h; exact .str x
  | .list ds, _, h => by
    cases h with
    | lst hs ha => exact .lst (rd_mono s hs) (dqAll_mono s ds _ ha)
  | .tuple ds, _, h => by
    cases h with
    | tups hs ha => exact .tups (hs.mono s) (dqAll_mono s ds _ ha)
  | .dict _, _, h => by
    cases h with
    | scr hs => exact .scr (s.seq hs)
theorem dqAll_mono {K : Fg} {F F' : Hp} (s : Same F F') : ∀ (ds : List PyData) (vs : List V), DqAll K F vs ds → DqAll K F' vs ds
  | [], _, h => by cases h; exact .nil
  | d :: ds, _, h => by
    cases h with
    | cons h1 h2 => exact .cons (dq_mono s d _ h1) (dqAll_mono s ds _ h2)
end
theorem dqAll_len {K : Fg} {F : Hp} : ∀ {vs : List V} {ds : List PyData}, DqAll K F vs ds → vs.length = ds.length
  | _, _, .nil => rfl
  | _, _, .cons _ t => by simp [dqAll_len t]
theorem dqAll_get {K : Fg} {F : Hp} : ∀ {vs : List V} {ds : List PyData} {i : Nat} {d : PyData}, DqAll K F vs ds → ds[i]? = some d → ∃ v, vs[i]? = some v ∧ Dq K F v d
  | _, _, _, _, .nil, e => by simp at e
  | _, _, 0, _, .cons r _, e => by simp at e; subst e; exact ⟨_, rfl, r⟩
  | _, _, i + 1, x, .cons _ t, e => by
    obtain ⟨u, h1, h2⟩ := dqAll_get (i := i) (d := x) t (by simpa using e)
    exact ⟨u, by simpa using h1, h2⟩
theorem dqAll_app {K : Fg} {F : Hp} : ∀ {vs ws : List V} {ds es : List PyData}, DqAll K F vs ds → DqAll K F ws es → DqAll K F (vs ++ ws) (ds ++ es)
  | _, _, _, _, .nil, s => s
  | _, _, _, _, .cons r t, s => .cons r (dqAll_app t s)
theorem dqAll_take {K : Fg} {F : Hp} : ∀ {vs : List V} {ds : List PyData} (n : Nat), DqAll K F vs ds → DqAll K F (vs.take n) (ds.take n)
  | _, _, 0, _ => .nil
  | _, _, _ + 1, .nil => .nil
  | _, _, n + 1, .cons r t => .cons r (dqAll_take n t)
theorem dqAll_drop {K : Fg} {F : Hp} : ∀ {vs : List V} {ds : List PyData} (n : Nat), DqAll K F vs ds → DqAll K F (vs.drop n) (ds.drop n)
  | _, _, 0, r => r
  | _, _, _ + 1, .nil => .nil
  | _, _, n + 1, .cons _ t => dqAll_drop n t

/-- keys alike, values by Dq -/
def Prs {κ : Type} (K : Fg) (F : Hp) (vs : List (κ × V)) (ds : List (κ × PyData)) : Prop := vs.map (·.1) = ds.map (·.1) ∧ DqAll K F (vs.map (·.2)) (ds.map (·.2))
theorem Prs.mono {κ : Type} {K : Fg} {F F' : Hp} {vs : List (κ × V)} {ds : List (κ × PyData)} (s : Same F F') (h : Prs K F vs ds) : Prs K F' vs ds := ⟨h.1, dqAll_mono s _ _ h.2⟩
/-! ### trees and their footprints -/
/-- a tuple of numbers and texts (such may be frozen at any time; no tree owns it) -/
def KT (H : Hp) (b : Addr) : Prop := (∃ ks : List Key, H b = some (.tup (ks.map kV))) ∨ ∃ ps, H b = some (.tbl ps)
mutual
inductive TrOk (K : Fg) (F H : Hp) : V → Tr → List Addr → Prop
  | dat {v : V} {d : PyData} : Dq K F v d → TrOk K F H v (.dat d) []
  | tup {a : Addr} {vs : List V} {ts : List Tr} {A : List Addr} : H a = some (.tup vs) → (F a = none ∧ ∀ ks : List Key, vs ≠ ks.map kV) → TrsOk K F H vs ts A → TrOk K F H (.ref a) (.tup ts) (a :: A)
  | lst {a : Addr} {vs : List V} {ts : List Tr} {A : List Addr} : H a = some (.lst vs) → F a = none → TrsOk K F H vs ts A → TrOk K F H (.ref a) (.lst ts) (a :: A)
  | dk {a : Addr} {vs : List (Key × V)} {ts : List (Key × Tr)} {A : List Addr} : H a = some (.dK vs) → F a = none → vs.map (·.1) = ts.map (·.1) → TrsOk K F H (vs.map (·.2)) (ts.map (·.2)) A → TrOk K F H (.ref a) (.dk ts) (a :: A)
  | dt {a : Addr} {vs : List (List Key × V)} {ts : List (List Key × Tr)} {A : List Addr} : H a = some (.dT vs) → F a = none → vs.map (·.1) = ts.map (·.1) → TrsOk K F H (vs.map (·.2)) (ts.map (·.2)) A → TrOk K F H (.ref a) (.dt ts) (a :: A)
  | ins {a C dx : Addr} {c : Str} {vs : List (Str × V)} {ts : List (Str × Tr)} {A : List Addr} : H a = some (.ins C dx vs) → F a = none → PySem.W.nsIn K mainGlobals c = some (some (.ref C)) → vs.map (·.1) = ts.map (·.1) → TrsOk K F H (vs.map (·.2)) (ts.map (·.2)) A → TrOk K F H (.ref a) (.ins c ts) (a :: A)
  | fk {a : Addr} {o : Obj} {vs : List (Key × V)} {ds : List (Key × PyData)} : H a = some (.frz o (.dK vs)) → F a = none → Prs K F vs ds → TrOk K F H (.ref a) (.fk ds) [a]
  | ft {a : Addr} {o : Obj} {vs : List (List Key × V)} {ds : List (List Key × PyData)} : H a = some (.frz o (.dT vs)) → F a = none → Prs K F vs ds → TrOk K F H (.ref a) (.ft ds) [a]
  | raw {v : V} : TrOk K F H v (.raw v) []
  | hole {v : V} : TrOk K F H v .hole []
inductive TrsOk (K : Fg) (F H : Hp) : List V → List Tr → List Addr → Prop
  | nil : TrsOk K F H [] [] []
  | cons {v : V} {vs : List V} {t : Tr} {ts : List Tr} {A B : List Addr} : TrOk K F H v t A → TrsOk K F H vs ts B → TrsOk K F H (v :: vs) (t :: ts) (A ++ B)
end
section
variable {K : Fg} {F H F' H' : Hp}
mutual
theorem TrOk.mem : ∀ {v : V} {t : Tr} {A : List Addr}, TrOk K F H v t A → ∀ b ∈ A, H b ≠ none ∧ F b = none
  | _, _, _, .dat _, _, h => nomatch h
  | _, _, _, .tup e f r, b, h => by
    rcases List.mem_cons.mp h with rfl | h
    · exact ⟨(by rw [e]; exact fun z => nomatch z), f.1⟩
    · exact TrsOk.mem r b h
  | _, _, _, .lst e f r, b, h => by
    rcases List.mem_cons.mp h with rfl | h
    · exact ⟨(by rw [e]; exact fun z => nomatch z), f⟩
    · exact TrsOk.mem r b h
  | _, _, _, .dk e f _ r, b, h => by
    rcases List.mem_cons.mp h with rfl | h
    · exact ⟨(by rw [e]; exact fun z => nomatch z), f⟩
    · exact TrsOk.mem r b h
  | _, _, _, .dt e f _ r, b, h => by
    rcases List.mem_cons.mp h with rfl | h
    · exact ⟨(by rw [e]; exact fun z => nomatch z), f⟩
    · exact TrsOk.mem r b h
  | _, _, _, .ins e f _ _ r, b, h => by
    rcases List.mem_cons.mp h with rfl | h
    · exact ⟨(by rw [e]; exact fun z => nomatch z), f⟩
    · exact TrsOk.mem r b h
  | _, _, _, .fk e f _, b, h => by
    rw [List.mem_singleton.mp h]
    exact ⟨(by rw [e]; exact fun z => nomatch z), f⟩
  | _, _, _, .ft e f _, b, h => by
    rw [List.mem_singleton.mp h]
    exact ⟨(by rw [e]; exact fun z => nomatch z), f⟩
  | _, _, _, .raw, _, h => nomatch h
  | _, _, _, .hole, _, h => nomatch h
theorem TrsOk.mem : ∀ {vs : List V} {ts : List Tr} {A : List Addr}, TrsOk K F H vs ts A → ∀ b ∈ A, H b ≠ none ∧ F b = none
  | _, _, _, .nil, _, h => nomatch h
  | _, _, _, .cons q r, b, h => by
    rcases List.mem_append.mp h with h | h
    · exact TrOk.mem q b h
    · exact TrsOk.mem r b h
end
mutual
theorem TrOk.ntb : ∀ {v : V} {t : Tr} {A : List Addr}, TrOk K F H v t A → ∀ b ∈ A, ∀ ps, H b ≠ some (.tbl ps)
  | _, _, _, .dat _, _, h => nomatch h
  | _, _, _, .tup e f r, b, h => by
    rcases List.mem_cons.mp h with rfl | h
    · intro ps z; rw [e] at z; cases z
    · exact TrsOk.ntb r b h
  | _, _, _, .lst e f r, b, h => by
    rcases List.mem_cons.mp h with rfl | h
    · intro ps z; rw [e] at z; cases z
    · exact TrsOk.ntb r b h
  | _, _, _, .dk e f _ r, b, h => by
    rcases List.mem_cons.mp h with rfl | h
    · intro ps z; rw [e] at z; cases z
    · exact TrsOk.ntb r b h
  | _, _, _, .dt e f _ r, b, h => by
    rcases List.mem_cons.mp h with rfl | h
    · intro ps z; rw [e] at z; cases z
    · exact TrsOk.ntb r b h
  | _, _, _, .ins e f _ _ r, b, h => by
    rcases List.mem_cons.mp h with rfl | h
    · intro ps z; rw [e] at z; cases z
    · exact TrsOk.ntb r b h
  | _, _, _, .fk e f _, b, h => by
    rw [List.mem_singleton.mp h]
    intro ps z; rw [e] at z; cases z
  | _, _, _, .ft e f _, b, h => by
    rw [List.mem_singleton.mp h]
    intro ps z; rw [e] at z; cases z
  | _, _, _, .raw, _, h => nomatch h
  | _, _, _, .hole, _, h => nomatch h
theorem TrsOk.ntb : ∀ {vs : List V} {ts : List Tr} {A : List Addr}, TrsOk K F H vs ts A → ∀ b ∈ A, ∀ ps, H b ≠ some (.tbl ps)
  | _, _, _, .nil, _, h => nomatch h
  | _, _, _, .cons q r, b, h => by
    rcases List.mem_append.mp h with h | h
    · exact TrOk.ntb q b h
    · exact TrsOk.ntb r b h
end
mutual
theorem TrOk.nkt : ∀ {v : V} {t : Tr} {A : List Addr}, TrOk K F H v t A → ∀ b ∈ A, ¬ KT H b
  | _, _, _, .dat _, _, h => nomatch h
  | _, _, _, .tup e f r, b, h => by
    rcases List.mem_cons.mp h with rfl | h
    · rintro (⟨ks, z⟩ | ⟨ps, z⟩)
      · rw [e] at z; exact f.2 ks (by injection z with z; injection z)
      · rw [e] at z; cases z
    · exact TrsOk.nkt r b h
  | _, _, _, .lst e f r, b, h => by
    rcases List.mem_cons.mp h with rfl | h
    · rintro (⟨ks, z⟩ | ⟨ps, z⟩) <;> rw [e] at z <;> cases z
    · exact TrsOk.nkt r b h
  | _, _, _, .dk e f _ r, b, h => by
    rcases List.mem_cons.mp h with rfl | h
    · rintro (⟨ks, z⟩ | ⟨ps, z⟩) <;> rw [e] at z <;> cases z
    · exact TrsOk.nkt r b h
  | _, _, _, .dt e f _ r, b, h => by
    rcases List.mem_cons.mp h with rfl | h
    · rintro (⟨ks, z⟩ | ⟨ps, z⟩) <;> rw [e] at z <;> cases z
    · exact TrsOk.nkt r b h
  | _, _, _, .ins e f _ _ r, b, h => by
    rcases List.mem_cons.mp h with rfl | h
    · rintro (⟨ks, z⟩ | ⟨ps, z⟩) <;> rw [e] at z <;> cases z
    · exact TrsOk.nkt r b h
  | _, _, _, .fk e f _, b, h => by
    rw [List.mem_singleton.mp h]
    rintro (⟨ks, z⟩ | ⟨ps, z⟩) <;> rw [e] at z <;> cases z
  | _, _, _, .ft e f _, b, h => by
    rw [List.mem_singleton.mp h]
    rintro (⟨ks, z⟩ | ⟨ps, z⟩) <;> rw [e] at z <;> cases z
  | _, _, _, .raw, _, h => nomatch h
  | _, _, _, .hole, _, h => nomatch h
theorem TrsOk.nkt : ∀ {vs : List V} {ts : List Tr} {A : List Addr}, TrsOk K F H vs ts A → ∀ b ∈ A, ¬ KT H b
  | _, _, _, .nil, _, h => nomatch h
  | _, _, _, .cons q r, b, h => by
    rcases List.mem_append.mp h with h | h
    · exact TrOk.nkt q b h
    · exact TrsOk.nkt r b h
end
mutual
theorem TrOk.move (s : Same F F') : ∀ {v : V} {t : Tr} {A : List Addr}, TrOk K F H v t A → (∀ b ∈ A, H' b = H b ∧ F' b = none) → TrOk K F' H' v t A
  | _, _, _, .dat d, _ => .dat (dq_mono s _ _ d)
  | _, _, _, .tup e f r, h => .tup ((h _ List.mem_cons_self).1.trans e) ⟨(h _ List.mem_cons_self).2, f.2⟩ (TrsOk.move s r fun b z => h b (List.mem_cons_of_mem _ z))
  | _, _, _, .lst e f r, h => .lst ((h _ List.mem_cons_self).1.trans e) (h _ List.mem_cons_self).2 (TrsOk.move s r fun b z => h b (List.mem_cons_of_mem _ z))
  | _, _, _, .dk e f k r, h => .dk ((h _ List.mem_cons_self).1.trans e) (h _ List.mem_cons_self).2 k (TrsOk.move s r fun b z => h b (List.mem_cons_of_mem _ z))
  | _, _, _, .dt e f k r, h => .dt ((h _ List.mem_cons_self).1.trans e) (h _ List.mem_cons_self).2 k (TrsOk.move s r fun b z => h b (List.mem_cons_of_mem _ z))
  | _, _, _, .ins e f kc k r, h => .ins ((h _ List.mem_cons_self).1.trans e) (h _ List.mem_cons_self).2 kc k (TrsOk.move s r fun b z => h b (List.mem_cons_of_mem _ z))
  | _, _, _, .fk e f r, h => .fk ((h _ List.mem_cons_self).1.trans e) (h _ List.mem_cons_self).2 (r.mono s)
  | _, _, _, .ft e f r, h => .ft ((h _ List.mem_cons_self).1.trans e) (h _ List.mem_cons_self).2 (r.mono s)
  | _, _, _, .raw, _ => .raw
  | _, _, _, .hole, _ => .hole
theorem TrsOk.move (s : Same F F') : ∀ {vs : List V} {ts : List Tr} {A : List Addr}, TrsOk K F H vs ts A → (∀ b ∈ A, H' b = H b ∧ F' b = none) → TrsOk K F' H' vs ts A
  | _, _, _, .nil, _ => .nil
  | _, _, _, .cons q r, h => .cons (TrOk.move s q fun b z => h b (List.mem_append_left _ z)) (TrsOk.move s r fun b z => h b (List.mem_append_right _ z))
end
mutual
/-- as data -/
def Tr.toD : Tr → Option PyData
  | .dat d => some d
  | .tup ts => (Tr.toDs ts).map .tuple
  | .lst ts => (Tr.toDs ts).map .list
  | .dk _ => none
  | .dt _ => none
  | .ins _ _ => none
  | .fk _ => none
  | .ft _ => none
  | .raw _ => none
  | .hole => none
def Tr.toDs : List Tr → Option (List PyData)
  | [] => some []
  | t :: ts => match Tr.toD t, Tr.toDs ts with
    | some d, some ds => some (d :: ds)
    | _, _ => none
end
/-- the frozen part with all of A -/
def frz (F H : Hp) (A : List Addr) : Hp := fun b => if b ∈ A then H b else F b
theorem frz_same {A : List Addr} (hA : ∀ b ∈ A, F b = none) : Same F (frz F H A) := fun b o e => by
  unfold frz
  rw [if_neg fun z => by rw [hA b z] at e; cases e]
  exact e
theorem frz_sub {A : List Addr} (s : Same F H) : Same (frz F H A) H := fun b o e => by
  unfold frz at e
  split at e
  · exact e
  · exact s b o e
mutual
/-- over G: what is frozen (of G, at least) reads as data -/
theorem TrOk.dp {G : Hp} (s : Same F G) : ∀ {v : V} {t : Tr} {A : List Addr} {d : PyData}, TrOk K F H v t A → (∀ b ∈ A, G b = H b) → t.toD = some d → Dq K G v d
  | _, _, _, _, .dat q, _, e => by
    simp only [Tr.toD] at e; cases e
    exact dq_mono s _ _ q
  | _, .tup ts, _, d, .tup q _ r, h, e => by
    simp only [Tr.toD] at e
    cases z : Tr.toDs ts with
    | none => rw [z] at e; cases e
    | some ds =>
      rw [z] at e; cases e
      exact .tup ((h _ List.mem_cons_self).trans q) (TrsOk.dp s r (fun b z => h b (List.mem_cons_of_mem _ z)) z)
  | _, .lst ts, _, d, .lst q _ r, h, e => by
    simp only [Tr.toD] at e
    cases z : Tr.toDs ts with
    | none => rw [z] at e; cases e
    | some ds =>
      rw [z] at e; cases e
      exact .lst (.inl ((h _ List.mem_cons_self).trans q)) (TrsOk.dp s r (fun b z => h b (List.mem_cons_of_mem _ z)) z)
  | _, _, _, _, .dk .., _, e => by simp [Tr.toD] at e
  | _, _, _, _, .dt .., _, e => by simp [Tr.toD] at e
  | _, _, _, _, .ins .., _, e => by simp [Tr.toD] at e
  | _, _, _, _, .fk .., _, e => by simp [Tr.toD] at e
  | _, _, _, _, .ft .., _, e => by simp [Tr.toD] at e
  | _, _, _, _, .raw, _, e => by simp [Tr.toD] at e
  | _, _, _, _, .hole, _, e => by simp [Tr.toD] at e
theorem TrsOk.dp {G : Hp} (s : Same F G) : ∀ {vs : List V} {ts : List Tr} {A : List Addr} {ds : List PyData}, TrsOk K F H vs ts A → (∀ b ∈ A, G b = H b) → Tr.toDs ts = some ds → DqAll K G vs ds
  | _, _, _, _, .nil, _, e => by
    simp only [Tr.toDs] at e; cases e
    exact .nil
  | _, t :: ts, _, _, .cons q r, h, e => by
    simp only [Tr.toDs] at e
    cases z : t.toD with
    | none => rw [z] at e; cases e
    | some d =>
      cases y : Tr.toDs ts with
      | none => rw [z, y] at e; cases e
      | some ds' =>
        rw [z, y] at e; cases e
        exact .cons (TrOk.dp s q (fun b z => h b (List.mem_append_left _ z)) z) (TrsOk.dp s r (fun b z => h b (List.mem_append_right _ z)) y)
end
end
theorem TrsOk.len {K : Fg} {F H : Hp} : ∀ {vs : List V} {ts : List Tr} {A : List Addr}, TrsOk K F H vs ts A → vs.length = ts.length
  | _, _, _, .nil => rfl
  | _, _, _, .cons _ t => by simp [TrsOk.len t]
/-- data alone -/
theorem trs_dat {K : Fg} {F H : Hp} : ∀ {vs : List V} {ds : List PyData}, DqAll K F vs ds → TrsOk K F H vs (ds.map .dat) []
  | _, _, .nil => .nil
  | _, _, .cons h t => by
    have := TrsOk.cons (TrOk.dat (H := H) h) (trs_dat (H := H) t)
    simpa using this
theorem trs_dat' {K : Fg} {F H : Hp} : ∀ {vs : List V} {ds : List PyData} {A : List Addr}, TrsOk K F H vs (ds.map .dat) A → A = [] ∧ DqAll K F vs ds
  | _, [], _, .nil => ⟨rfl, .nil⟩
  | _, d :: ds, _, .cons q r => by
    cases q with
    | dat q =>
      obtain ⟨e, z⟩ := trs_dat' (ds := ds) r
      subst e
      exact ⟨rfl, .cons q z⟩
theorem toDs_dat : ∀ ds : List PyData, Tr.toDs (ds.map .dat) = some ds
  | [] => by simp [Tr.toDs]
  | d :: ds => by simp [Tr.toDs, Tr.toD, toDs_dat ds]

/-! ### places in a tree -/
def kids : Tr → List Tr
  | .dat _ => []
  | .tup ts => ts
  | .lst ts => ts
  | .dk kvs => kvs.map (·.2)
  | .dt kvs => kvs.map (·.2)
  | .ins _ fs => fs.map (·.2)
  | .fk _ => []
  | .ft _ => []
  | .raw _ => []
  | .hole => []
def setSnd {κ : Type} : List (κ × Tr) → Nat → Tr → List (κ × Tr)
  | [], _, _ => []
  | (k, _) :: r, 0, t => (k, t) :: r
  | p :: r, j + 1, t => p :: setSnd r j t
def setKid : Tr → Nat → Tr → Tr
  | .dat d, _, _ => .dat d
  | .tup ts, j, t => .tup (ts.set j t)
  | .lst ts, j, t => .lst (ts.set j t)
  | .dk kvs, j, t => .dk (setSnd kvs j t)
  | .dt kvs, j, t => .dt (setSnd kvs j t)
  | .ins C fs, j, t => .ins C (setSnd fs j t)
  | .fk d, _, _ => .fk d
  | .ft d, _, _ => .ft d
  | .raw d, _, _ => .raw d
  | .hole, _, _ => .hole
def Tr.at : Tr → List Nat → Option Tr
  | t, [] => some t
  | t, j :: p => match (kids t)[j]? with
    | some k => k.at p
    | none => none
def Tr.put : Tr → List Nat → Tr → Tr
  | _, [], t' => t'
  | t, j :: p, t' => match (kids t)[j]? with
    | some k => setKid t j (k.put p t')
    | none => t
def kidsV (H : Hp) : V → List V
  | .ref a => match H a with
    | some (.tup vs) => vs
    | some (.lst vs) => vs
    | some (.dK kvs) => kvs.map (·.2)
    | some (.dT kvs) => kvs.map (·.2)
    | some (.ins _ _ fs) => fs.map (·.2)
    | _ => []
  | _ => []
def pathV (H : Hp) : V → List Nat → Option V
  | v, [] => some v
  | v, j :: p => match (kidsV H v)[j]? with
    | some w => pathV H w p
    | none => none
theorem setSnd_fst {κ : Type} : ∀ (l : List (κ × Tr)) (j : Nat) (t : Tr), (setSnd l j t).map (·.1) = l.map (·.1)
  | [], _, _ => rfl
  | (k, _) :: r, 0, t => rfl
  | p :: r, j + 1, t => by simp [setSnd, setSnd_fst r j t]
theorem setSnd_snd {κ : Type} : ∀ (l : List (κ × Tr)) (j : Nat) (t : Tr), (setSnd l j t).map (·.2) = (l.map (·.2)).set j t
  | [], _, _ => rfl
  | (k, _) :: r, 0, t => rfl
  | p :: r, j + 1, t => by simp [setSnd, setSnd_snd r j t]
section
variable {K : Fg} {F H : Hp}
theorem trs_focus : ∀ {vs : List V} {ts : List Tr} {A : List Addr} {j : Nat} {t : Tr}, TrsOk K F H vs ts A → ts[j]? = some t →
    ∃ v pre B post, vs[j]? = some v ∧ A = pre ++ (B ++ post) ∧ TrOk K F H v t B ∧ ∀ F' H' t' B', Same F F' → (∀ b, b ∈ pre ∨ b ∈ post → H' b = H b ∧ F' b = none) → TrOk K F' H' v t' B' → TrsOk K F' H' vs (ts.set j t') (pre ++ (B' ++ post))
  | _, _, _, j, t, .nil, h => by simp at h
  | _, _, _, 0, t, @TrsOk.cons _ _ _ v vs t0 ts A B q r, h => by
    simp at h
    subst h
    exact ⟨v, [], A, B, rfl, rfl, q, fun F' H' t' B' s hb q' => by
      have z := TrsOk.cons q' (r.move s fun b z => hb b (.inr z))
      exact z⟩
  | _, _, _, j + 1, t, @TrsOk.cons _ _ _ v0 vs t0 ts A B q r, h => by
    obtain ⟨v, pre, B1, post, h1, h2, h3, h4⟩ := trs_focus (j := j) r (by simpa using h)
    refine ⟨v, A ++ pre, B1, post, by simpa using h1, by rw [h2]; simp, h3, fun F' H' t' B' s hb q' => ?_⟩
    have z := TrsOk.cons (q.move s fun b z => hb b (.inl (List.mem_append_left _ z))) (h4 F' H' t' B' s (fun b z => hb b (z.imp_left (List.mem_append_right _))) q')
    rw [List.append_assoc]
    exact z
/-- an item is put otherwise: what stood there goes -/
theorem trs_repl : ∀ {vs : List V} {ts : List Tr} {A : List Addr} {j : Nat} {t : Tr}, TrsOk K F H vs ts A → ts[j]? = some t →
    ∃ v pre B post, vs[j]? = some v ∧ A = pre ++ (B ++ post) ∧ TrOk K F H v t B ∧ ∀ F' H' v' t' B', Same F F' → (∀ b, b ∈ pre ∨ b ∈ post → H' b = H b ∧ F' b = none) → TrOk K F' H' v' t' B' → TrsOk K F' H' (vs.set j v') (ts.set j t') (pre ++ (B' ++ post))
  | _, _, _, j, t, .nil, h => by simp at h
  | _, _, _, 0, t, @TrsOk.cons _ _ _ v vs t0 ts A B q r, h => by
    simp at h
    subst h
    exact ⟨v, [], A, B, rfl, rfl, q, fun F' H' v' t' B' s hb q' => by
      have z := TrsOk.cons q' (r.move s fun b z => hb b (.inr z))
      exact z⟩
  | _, _, _, j + 1, t, @TrsOk.cons _ _ _ v0 vs t0 ts A B q r, h => by
    obtain ⟨v, pre, B1, post, h1, h2, h3, h4⟩ := trs_repl (j := j) r (by simpa using h)
    refine ⟨v, A ++ pre, B1, post, by simpa using h1, by rw [h2]; simp, h3, fun F' H' v' t' B' s hb q' => ?_⟩
    have z := TrsOk.cons (q.move s fun b z => hb b (.inl (List.mem_append_left _ z))) (h4 F' H' v' t' B' s (fun b z => hb b (z.imp_left (List.mem_append_right _))) q')
    rw [List.append_assoc]
    exact z
theorem focus : ∀ {p : List Nat} {v : V} {t t' : Tr} {A : List Addr}, TrOk K F H v t A → t.at p = some t' →
    ∃ v' pre B post, pathV H v p = some v' ∧ A = pre ++ (B ++ post) ∧ TrOk K F H v' t' B ∧ ∀ F' H' t'' B', Same F F' → (∀ b, b ∈ pre ∨ b ∈ post → H' b = H b ∧ F' b = none) → TrOk K F' H' v' t'' B' → TrOk K F' H' v (t.put p t'') (pre ++ (B' ++ post)) ∧ pathV H' v p = some v'
  | [], v, t, t', A, q, h => by
    simp only [Tr.at] at h
    cases h
    exact ⟨v, [], A, [], rfl, by simp, q, fun F' H' t'' B' s hb q' => ⟨by simpa [Tr.put] using q', rfl⟩⟩
  | j :: p, v, t, t', A, q, h => by
    simp only [Tr.at] at h
    split at h
    · rename_i k hk
      cases q with
      | dat q => simp [kids] at hk
      | fk _ _ _ => simp [kids] at hk
      | ft _ _ _ => simp [kids] at hk
      | raw => simp [kids] at hk
      | hole => simp [kids] at hk
      | @tup a vs ts A e f r =>
        obtain ⟨v1, pre, B, post, h1, h2, h3, h4⟩ := trs_focus r hk
        obtain ⟨v', pre', B', post', g1, g2, g3, g4⟩ := focus h3 h
        refine ⟨v', a :: (pre ++ pre'), B', post' ++ post, by simp [pathV, kidsV, e, h1, g1], by rw [h2, g2]; simp, g3, fun F' H' t'' B'' s hb q' => ?_⟩
        have ha := hb a (.inl List.mem_cons_self)
        obtain ⟨z, zp⟩ := g4 F' H' t'' B'' s (fun b z => hb b (z.imp (fun w => List.mem_cons_of_mem _ (List.mem_append_right _ w)) (List.mem_append_left _))) q'
        have y := h4 F' H' _ _ s (fun b z => hb b (z.imp (fun w => List.mem_cons_of_mem _ (List.mem_append_left _ w)) (List.mem_append_right _))) z
        refine ⟨?_, by simp [pathV, kidsV, ha.1, e, h1, zp]⟩
        simp only [Tr.put, hk, setKid]
        have x := TrOk.tup (ha.1.trans e) ⟨ha.2, f.2⟩ y
        simpa [List.append_assoc] using x
      | @lst a vs ts A e f r =>
        obtain ⟨v1, pre, B, post, h1, h2, h3, h4⟩ := trs_focus r hk
        obtain ⟨v', pre', B', post', g1, g2, g3, g4⟩ := focus h3 h
        refine ⟨v', a :: (pre ++ pre'), B', post' ++ post, by simp [pathV, kidsV, e, h1, g1], by rw [h2, g2]; simp, g3, fun F' H' t'' B'' s hb q' => ?_⟩
        have ha := hb a (.inl List.mem_cons_self)
        obtain ⟨z, zp⟩ := g4 F' H' t'' B'' s (fun b z => hb b (z.imp (fun w => List.mem_cons_of_mem _ (List.mem_append_right _ w)) (List.mem_append_left _))) q'
        have y := h4 F' H' _ _ s (fun b z => hb b (z.imp (fun w => List.mem_cons_of_mem _ (List.mem_append_left _ w)) (List.mem_append_right _))) z
        refine ⟨?_, by simp [pathV, kidsV, ha.1, e, h1, zp]⟩
        simp only [Tr.put, hk, setKid]
        have x := TrOk.lst (ha.1.trans e) ha.2 y
        simpa [List.append_assoc] using x
      | @dk a vs ts A e f kk r =>
        obtain ⟨v1, pre, B, post, h1, h2, h3, h4⟩ := trs_focus r hk
        obtain ⟨v', pre', B', post', g1, g2, g3, g4⟩ := focus h3 h
        refine ⟨v', a :: (pre ++ pre'), B', post' ++ post, by simp only [pathV, kidsV, e, h1]; exact g1, by rw [h2, g2]; simp, g3, fun F' H' t'' B'' s hb q' => ?_⟩
        have ha := hb a (.inl List.mem_cons_self)
        obtain ⟨z, zp⟩ := g4 F' H' t'' B'' s (fun b z => hb b (z.imp (fun w => List.mem_cons_of_mem _ (List.mem_append_right _ w)) (List.mem_append_left _))) q'
        have y := h4 F' H' _ _ s (fun b z => hb b (z.imp (fun w => List.mem_cons_of_mem _ (List.mem_append_left _ w)) (List.mem_append_right _))) z
        refine ⟨?_, by simp only [pathV, kidsV, ha.1, e, h1]; exact zp⟩
        simp only [Tr.put, hk, setKid]
        rw [← setSnd_snd] at y
        have x := TrOk.dk (ha.1.trans e) ha.2 (by rw [setSnd_fst]; exact kk) y
        simpa [List.append_assoc] using x
      | @dt a vs ts A e f kk r =>
        obtain ⟨v1, pre, B, post, h1, h2, h3, h4⟩ := trs_focus r hk
        obtain ⟨v', pre', B', post', g1, g2, g3, g4⟩ := focus h3 h
        refine ⟨v', a :: (pre ++ pre'), B', post' ++ post, by simp only [pathV, kidsV, e, h1]; exact g1, by rw [h2, g2]; simp, g3, fun F' H' t'' B'' s hb q' => ?_⟩
        have ha := hb a (.inl List.mem_cons_self)
        obtain ⟨z, zp⟩ := g4 F' H' t'' B'' s (fun b z => hb b (z.imp (fun w => List.mem_cons_of_mem _ (List.mem_append_right _ w)) (List.mem_append_left _))) q'
        have y := h4 F' H' _ _ s (fun b z => hb b (z.imp (fun w => List.mem_cons_of_mem _ (List.mem_append_left _ w)) (List.mem_append_right _))) z
        refine ⟨?_, by simp only [pathV, kidsV, ha.1, e, h1]; exact zp⟩
        simp only [Tr.put, hk, setKid]
        rw [← setSnd_snd] at y
        have x := TrOk.dt (ha.1.trans e) ha.2 (by rw [setSnd_fst]; exact kk) y
        simpa [List.append_assoc] using x
      | @ins a C dx c vs ts A e f kc kk r =>
        obtain ⟨v1, pre, B, post, h1, h2, h3, h4⟩ := trs_focus r hk
        obtain ⟨v', pre', B', post', g1, g2, g3, g4⟩ := focus h3 h
        refine ⟨v', a :: (pre ++ pre'), B', post' ++ post, by simp only [pathV, kidsV, e, h1]; exact g1, by rw [h2, g2]; simp, g3, fun F' H' t'' B'' s hb q' => ?_⟩
        have ha := hb a (.inl List.mem_cons_self)
        obtain ⟨z, zp⟩ := g4 F' H' t'' B'' s (fun b z => hb b (z.imp (fun w => List.mem_cons_of_mem _ (List.mem_append_right _ w)) (List.mem_append_left _))) q'
        have y := h4 F' H' _ _ s (fun b z => hb b (z.imp (fun w => List.mem_cons_of_mem _ (List.mem_append_left _ w)) (List.mem_append_right _))) z
        refine ⟨?_, by simp only [pathV, kidsV, ha.1, e, h1]; exact zp⟩
        simp only [Tr.put, hk, setKid]
        rw [← setSnd_snd] at y
        have x := TrOk.ins (ha.1.trans e) ha.2 kc (by rw [setSnd_fst]; exact kk) y
        simpa [List.append_assoc] using x
    · cases h
/-- a path stays where its tree's objects stay -/
theorem path_stays {H' : Hp} {v : V} {t t' : Tr} {A : List Addr} {p : List Nat} {w : V} (q : TrOk K F H v t A) (h : t.at p = some t') (e : pathV H v p = some w) (hb : ∀ b ∈ A, H' b = H b) : pathV H' v p = some w := by
  obtain ⟨v', pre, B, post, g1, g2, g3, g4⟩ := focus q h
  rw [g1] at e; cases e
  have hF : ∀ b ∈ A, F b = none := fun b z => (q.mem b z).2
  refine (g4 F H' t' B (Same.refl _) (fun b z => ?_) (g3.move (Same.refl _) fun b z => ?_)).2
  · have : b ∈ A := by rw [g2]; rcases z with z | z; exact List.mem_append_left _ z; exact List.mem_append_right _ (List.mem_append_right _ z)
    exact ⟨hb b this, hF b this⟩
  · have : b ∈ A := by rw [g2]; exact List.mem_append_right _ (List.mem_append_left _ z)
    exact ⟨hb b this, hF b this⟩
end

/-! ### slots, environments, steps -/
def SlOk (K : Fg) (F H : Hp) (v : Option V) (A : List Addr) : Sl → Prop
  | .no => True
  | .val d => ∃ u, v = some u ∧ Dq K F u d
  | .own _ t => ∃ u, v = some u ∧ TrOk K F H u t A
  | .al _ _ => True
def AlOk (H : Hp) (σ : Sg) (ρ : Rho) : Prop := ∀ (j i : Nat) p t, ρ[j]? = some (.al i p) → ρ[i]? = some (.own (.bor p) t) → ∃ t' u v, t.at p = some t' ∧ sg σ i = some u ∧ sg σ j = some v ∧ pathV H u p = some v
/-- the table of price_meant's code object (it holds a lambda); the code objects that it tells are frozen -/
def TbOk (K : Fg) (F H : Hp) : Prop := ∀ c P, PySem.W.tabIn K "price_meant" = some (c, P) → F P = none ∧ ∃ ps : Array Value, H P = some (.tbl ps) ∧ TriplesOk ps.toList ∧ ∀ (pos : Pos) (cv : Value), codeAmong pos ps.toList = some cv → ∃ c', cv = .ref c' ∧ F c' = some (LamX.CodeO c' "price_meant.<locals>.<lambda>")
theorem TbOk.mono {K : Fg} {F H F' H' : Hp} (t : TbOk K F H) (s : Same F F') (h : ∀ P ps, H P = some (.tbl ps) → F P = none → F' P = none ∧ H' P = H P) : TbOk K F' H' := fun c P e => by
  obtain ⟨h1, ps, h2, h3, h4⟩ := t c P e
  obtain ⟨g1, g2⟩ := h P ps h2 h1
  refine ⟨g1, ps, g2.trans h2, h3, fun pos cv z => ?_⟩
  obtain ⟨c', e1, e2⟩ := h4 pos cv z
  exact ⟨c', e1, s _ _ e2⟩
theorem TbOk.same {K : Fg} {F H F' H' : Hp} (t : TbOk K F H) (s : Same F F') (hs : Same H H') (h : ∀ b, F b = none → F' b ≠ none → H b = none) : TbOk K F' H' := t.mono s fun P ps h1 h2 => by
  refine ⟨?_, (hs _ _ h1).trans h1.symm⟩
  cases q : F' P with
  | none => rfl
  | some o =>
    have z := h P h2 (by rw [q]; exact fun z => nomatch z)
    rw [h1] at z
    cases z
theorem TbOk.frz {K : Fg} {F H : Hp} {A : List Addr} (t : TbOk K F H) (hA : ∀ b ∈ A, F b = none) (hn : ∀ b ∈ A, ∀ ps, H b ≠ some (.tbl ps)) : TbOk K (VL.frz F H A) H := t.mono (frz_same hA) fun P ps h1 h2 => by
  refine ⟨?_, rfl⟩
  unfold VL.frz
  rw [if_neg fun z => hn P z ps h1]
  exact h2
/-- one object is written that is no table, or new -/
theorem TbOk.upd {K : Fg} {F H : Hp} {a : Addr} {o : HO} (t : TbOk K F H) (hn : ∀ ps, H a ≠ some (.tbl ps)) : TbOk K F (L2.upd H a o) := t.mono (Same.refl _) fun P ps h1 h2 => ⟨h2, upd_ne fun z => hn ps (by rw [← z]; exact h1)⟩
structure EnvOk (K : Fg) (F H : Hp) (σ : Sg) (ρ : Rho) (fp : FP) : Prop where
  sub : Same F H
  len : σ.length = ρ.length
  sl : ∀ (i : Nat) s, ρ[i]? = some s → SlOk K F H (sg σ i) (fp i) s
  nil : ∀ (i : Nat), (∀ m t, ρ[i]? ≠ some (Sl.own m t)) → fp i = []
  nd : ∀ i, (fp i).Nodup
  ap : ∀ i j b, b ∈ fp i → b ∈ fp j → i = j
  tb : TbOk K F H
  al : AlOk H σ ρ
/-- aliases stay where the borrowed trees stay -/
theorem EnvOk.al' {K : Fg} {F H H' : Hp} {σ σ' : Sg} {ρ ρ' : Rho} {fp : FP} (E : EnvOk K F H σ ρ fp) (hj : ∀ (j i : Nat) p, ρ'[j]? = some (.al i p) → ρ[j]? = some (.al i p) ∧ sg σ' j = sg σ j)
    (ho : ∀ (i : Nat) p t, ρ'[i]? = some (.own (.bor p) t) → ρ[i]? = some (.own (.bor p) t) ∧ sg σ' i = sg σ i ∧ ∀ b ∈ fp i, H' b = H b) : AlOk H' σ' ρ' := fun j i p t h1 h2 => by
  obtain ⟨a1, a2⟩ := hj j i p h1
  obtain ⟨b1, b2, b3⟩ := ho i p t h2
  obtain ⟨t', u, v, c1, c2, c3, c4⟩ := E.al j i p t a1 b1
  obtain ⟨u', e, q⟩ := E.sl i _ b1
  rw [c2] at e; cases e
  exact ⟨t', u, v, c1, b2.trans c2, a2.trans c3, path_stays q c1 c4 b3⟩
def Owns (fp : FP) (b : Addr) : Prop := ∃ i, b ∈ fp i
theorem EnvOk.owned {K : Fg} {F H : Hp} {σ : Sg} {ρ : Rho} {fp : FP} (e : EnvOk K F H σ ρ fp) {i : Nat} {b : Addr} (h : b ∈ fp i) : ∃ m t u, ρ[i]? = some (Sl.own m t) ∧ sg σ i = some u ∧ TrOk K F H u t (fp i) := by
  cases q : ρ[i]? with
  | none => rw [e.nil i fun m t z => by rw [q] at z; cases z] at h; cases h
  | some s =>
    cases s with
    | no => rw [e.nil i fun m t z => by rw [q] at z; cases z] at h; cases h
    | val d => rw [e.nil i fun m t z => by rw [q] at z; cases z] at h; cases h
    | al k p => rw [e.nil i fun m t z => by rw [q] at z; cases z] at h; cases h
    | own m t =>
      obtain ⟨u, e1, e2⟩ := e.sl i _ q
      exact ⟨m, t, u, rfl, e1, e2⟩
theorem EnvOk.there {K : Fg} {F H : Hp} {σ : Sg} {ρ : Rho} {fp : FP} (e : EnvOk K F H σ ρ fp) {b : Addr} (h : Owns fp b) : H b ≠ none ∧ F b = none := by
  obtain ⟨i, h⟩ := h
  obtain ⟨m, t, u, _, _, z⟩ := e.owned h
  exact z.mem b h
theorem EnvOk.ntb {K : Fg} {F H : Hp} {σ : Sg} {ρ : Rho} {fp : FP} (e : EnvOk K F H σ ρ fp) {b : Addr} (h : Owns fp b) : ∀ ps, H b ≠ some (.tbl ps) := by
  obtain ⟨i, h⟩ := h
  obtain ⟨m, t, u, _, _, z⟩ := e.owned h
  exact z.ntb b h

theorem EnvOk.nkt {K : Fg} {F H : Hp} {σ : Sg} {ρ : Rho} {fp : FP} (e : EnvOk K F H σ ρ fp) {b : Addr} (h : Owns fp b) : ¬ KT H b := by
  obtain ⟨i, h⟩ := h
  obtain ⟨m, t, u, _, _, z⟩ := e.owned h
  exact z.nkt b h

structure Step (K : Fg) (F H : Hp) (σ : Sg) (ρ : Rho) (fp : FP) (F' H' : Hp) (σ' : Sg) (ρ' : Rho) (fp' : FP) : Prop where
  env : EnvOk K F' H' σ' ρ' fp'
  fr : Same F F'
  nf : ∀ b, F b = none → F' b ≠ none → H b = none ∨ (Owns fp b ∨ KT H b)
  dom : ∀ b, H' b = none → H b = none
  frame : ∀ b o, H b = some o → ¬ Owns fp b → (∀ ps, o ≠ .tbl ps) → H' b = some o
  own : ∀ b, Owns fp' b → Owns fp b ∨ H b = none
  pin : ∀ (i : Nat) m t, ρ[i]? = some (Sl.own m t) → m.pn = true → sg σ' i = sg σ i ∧ ∃ m' t', ρ'[i]? = some (Sl.own m' t') ∧ m'.pn = true
  lock : ∀ (i : Nat) t, ρ[i]? = some (Sl.own .lock t) → sg σ' i = sg σ i ∧ ρ'[i]? = some (Sl.own .lock t) ∧ fp' i = fp i ∧ ∀ b ∈ fp i, H' b = H b
theorem Step.refl {K : Fg} {F H : Hp} {σ : Sg} {ρ : Rho} {fp : FP} (e : EnvOk K F H σ ρ fp) : Step K F H σ ρ fp F H σ ρ fp :=
  ⟨e, Same.refl _, fun _ h h' => absurd h h', fun _ h => h, fun _ _ h _ _ => h, fun _ h => .inl h, fun _ m o h hm => ⟨rfl, m, o, h, hm⟩, fun _ _ h => ⟨rfl, h, rfl, fun _ _ => rfl⟩⟩
theorem Step.kt {K : Fg} {F H F1 H1 : Hp} {σ σ1 : Sg} {ρ ρ1 : Rho} {fp fp1 : FP} (a : Step K F H σ ρ fp F1 H1 σ1 ρ1 fp1) {c : Addr} (z : KT H1 c) : H c = none ∨ (Owns fp c ∨ KT H c) := by
  by_cases hn : H c = none
  · exact .inl hn
  · by_cases ho : Owns fp c
    · exact .inr (.inl ho)
    · obtain ⟨u, hu⟩ := Option.ne_none_iff_exists'.mp hn
      by_cases ht : ∃ ps, u = .tbl ps
      · obtain ⟨ps, rfl⟩ := ht
        exact .inr (.inr (.inr ⟨ps, hu⟩))
      · have := a.frame c u hu ho fun ps e => ht ⟨ps, e⟩
        unfold KT at z
        rw [this, ← hu] at z
        exact .inr (.inr z)
theorem Step.trans {K : Fg} {F H F1 H1 F2 H2 : Hp} {σ σ1 σ2 : Sg} {ρ ρ1 ρ2 : Rho} {fp fp1 fp2 : FP} (a : Step K F H σ ρ fp F1 H1 σ1 ρ1 fp1) (b : Step K F1 H1 σ1 ρ1 fp1 F2 H2 σ2 ρ2 fp2) : Step K F H σ ρ fp F2 H2 σ2 ρ2 fp2 where
  env := b.env
  fr := a.fr.trans b.fr
  nf := fun c h h' => by
    by_cases q : F1 c = none
    · rcases b.nf c q h' with z | z | z
      · exact .inl (a.dom c z)
      · exact (a.own c z).symm.imp_right .inl
      · exact a.kt z
    · exact a.nf c h q
  dom := fun c h => a.dom c (b.dom c h)
  frame := fun c o h n nt => b.frame c o (a.frame c o h n nt) (fun z => (a.own c z).elim n fun q => by rw [h] at q; cases q) nt
  own := fun c h => by
    rcases b.own c h with z | z
    · exact a.own c z
    · exact .inr (a.dom c z)
  pin := fun i m o h hm => by
    obtain ⟨e1, m1, o1, h1, k1⟩ := a.pin i m o h hm
    obtain ⟨e2, m2, o2, h2, k2⟩ := b.pin i m1 o1 h1 k1
    exact ⟨e2.trans e1, m2, o2, h2, k2⟩
  lock := fun i o h => by
    obtain ⟨e1, h1, f1, g1⟩ := a.lock i o h
    obtain ⟨e2, h2, f2, g2⟩ := b.lock i o h1
    exact ⟨e2.trans e1, h2, f2.trans f1, fun b hb => (g2 b (by rw [f1]; exact hb)).trans (g1 b hb)⟩

/-- an expression's step: the slots' values stay, what is owned stays owned, and what stands in no slot of T is not touched -/
structure EStep (K : Fg) (T : List Nat) (F H : Hp) (σ : Sg) (ρ : Rho) (fp : FP) (F' H' : Hp) (ρ' : Rho) (fp' : FP) : Prop where
  st : Step K F H σ ρ fp F' H' σ ρ' fp'
  ko : ∀ (i : Nat) m t, ρ[i]? = some (Sl.own m t) → ∃ t', ρ'[i]? = some (Sl.own m t')
  un : ∀ (i : Nat), i ∉ T → ρ'[i]? = ρ[i]? ∧ fp' i = fp i ∧ ∀ b ∈ fp i, H' b = H b
theorem EStep.refl {K : Fg} {T : List Nat} {F H : Hp} {σ : Sg} {ρ : Rho} {fp : FP} (e : EnvOk K F H σ ρ fp) : EStep K T F H σ ρ fp F H ρ fp := ⟨.refl e, fun _ _ o h => ⟨o, h⟩, fun _ _ => ⟨rfl, rfl, fun _ _ => rfl⟩⟩
theorem EStep.trans {K : Fg} {T : List Nat} {F H F1 H1 F2 H2 : Hp} {σ : Sg} {ρ ρ1 ρ2 : Rho} {fp fp1 fp2 : FP} (a : EStep K T F H σ ρ fp F1 H1 ρ1 fp1) (b : EStep K T F1 H1 σ ρ1 fp1 F2 H2 ρ2 fp2) : EStep K T F H σ ρ fp F2 H2 ρ2 fp2 :=
  ⟨a.st.trans b.st, fun i m o h => let ⟨o1, h1⟩ := a.ko i m o h; b.ko i m o1 h1, fun i hi => by
    obtain ⟨a1, a2, a3⟩ := a.un i hi
    obtain ⟨b1, b2, b3⟩ := b.un i hi
    exact ⟨b1.trans a1, b2.trans a2, fun c hc => (b3 c (by rw [a2]; exact hc)).trans (a3 c hc)⟩⟩
theorem EStep.env {K : Fg} {T : List Nat} {F H F1 H1 : Hp} {σ : Sg} {ρ ρ1 : Rho} {fp fp1 : FP} (a : EStep K T F H σ ρ fp F1 H1 ρ1 fp1) : EnvOk K F1 H1 σ ρ1 fp1 := a.st.env
theorem EStep.sub {K : Fg} {T T' : List Nat} {F H F1 H1 : Hp} {σ : Sg} {ρ ρ1 : Rho} {fp fp1 : FP} (a : EStep K T F H σ ρ fp F1 H1 ρ1 fp1) (h : ∀ i ∈ T, i ∈ T') : EStep K T' F H σ ρ fp F1 H1 ρ1 fp1 :=
  ⟨a.st, a.ko, fun i hi => a.un i fun z => hi (h i z)⟩

/-- pure growth: new objects, frozen or not; nothing is written -/
structure Grow (F H F' H' : Hp) : Prop where
  h : Same H H'
  f : Same F F'
  s : Same F' H'
  n : ∀ b, F b = none → F' b ≠ none → H b = none
theorem Grow.refl {F H : Hp} (s : Same F H) : Grow F H F H := ⟨Same.refl _, Same.refl _, s, fun _ h h' => absurd h h'⟩
theorem same_upd {H : Hp} {p : Addr} {o : HO} (h : H p = none) : Same H (upd H p o) := fun b u e => by rw [upd_ne (ne_of_none e h)]; exact e
theorem same_upd2 {F H : Hp} {p : Addr} {o : HO} (s : Same F H) : Same (upd F p o) (upd H p o) := fun b u e => by
  by_cases hb : b = p
  · subst hb; rw [upd_same] at e ⊢; exact e
  · rw [upd_ne hb] at e ⊢; exact s b u e
theorem Grow.new {F H : Hp} {p : Addr} (o : HO) (s : Same F H) (h : H p = none) : Grow F H (upd F p o) (upd H p o) :=
  ⟨same_upd h, same_upd (s.free h), same_upd2 s, fun b e e' => by
    by_cases hb : b = p
    · subst hb; exact h
    · rw [upd_ne hb] at e'; exact absurd e e'⟩
/-- a new object that is not frozen -/
theorem Grow.lay {F H : Hp} {p : Addr} (o : HO) (s : Same F H) (h : H p = none) : Grow F H F (upd H p o) :=
  ⟨same_upd h, Same.refl _, s.trans (same_upd h), fun b e e' => absurd e e'⟩
theorem Grow.trans {F H F1 H1 F2 H2 : Hp} (a : Grow F H F1 H1) (b : Grow F1 H1 F2 H2) : Grow F H F2 H2 :=
  ⟨a.h.trans b.h, a.f.trans b.f, b.s, fun c e e' => by
    by_cases q : F1 c = none
    · exact a.h.free (b.n c q e')
    · exact a.n c e q⟩
theorem Grow.step {K : Fg} {T : List Nat} {F H F' H' : Hp} {σ : Sg} {ρ : Rho} {fp : FP} (e : EnvOk K F H σ ρ fp) (g : Grow F H F' H') : EStep K T F H σ ρ fp F' H' ρ fp := by
  have nF : ∀ a, F a = none → H a ≠ none → F' a = none := fun a h h' => by
    cases q : F' a with
    | none => rfl
    | some o => exact absurd (g.n a h (by rw [q]; exact fun z => nomatch z)) h'
  have sH : ∀ a, H a ≠ none → H' a = H a := fun a h => by
    cases q : H a with
    | none => exact absurd q h
    | some u => exact g.h a u q
  refine ⟨⟨⟨g.s, e.len, fun i s h => ?_, e.nil, e.nd, e.ap, e.tb.same g.f g.h g.n, e.al' (fun _ _ _ h => ⟨h, rfl⟩) fun i _ _ h => ⟨h, rfl, fun b hb => sH b (e.there ⟨i, hb⟩).1⟩⟩, g.f, fun b h h' => .inl (g.n b h h'), fun b h => g.h.free h, fun b o h _ _ => g.h b o h, fun b h => .inl h, fun i m o h hm => ⟨rfl, m, o, h, hm⟩, fun i o h => ⟨rfl, h, rfl, fun b hb => sH b (e.there ⟨i, hb⟩).1⟩⟩, fun i m o h => ⟨o, h⟩, fun i _ => ⟨rfl, rfl, fun b hb => sH b (e.there ⟨i, hb⟩).1⟩⟩
  have q := e.sl i s h
  cases s with
  | no => trivial
  | al _ _ => trivial
  | val d => obtain ⟨u, e1, e2⟩ := q; exact ⟨u, e1, dq_mono g.f _ _ e2⟩
  | own m o =>
    obtain ⟨u, e1, e2⟩ := q
    exact ⟨u, e1, e2.move g.f fun b hb => ⟨sH b (e2.mem b hb).1, nF b (e2.mem b hb).2 (e2.mem b hb).1⟩⟩

/-- the same where a table may be written -/
structure Grow2 (K : Fg) (F H F' H' : Hp) : Prop where
  h : ∀ b o, H b = some o → (∀ ps, o ≠ .tbl ps) → H' b = some o
  d : ∀ b, H' b = none → H b = none
  f : Same F F'
  s : Same F' H'
  n : ∀ b, F b = none → F' b ≠ none → H b = none ∨ KT H b
  t : TbOk K F' H'
theorem Grow2.step {K : Fg} {T : List Nat} {F H F' H' : Hp} {σ : Sg} {ρ : Rho} {fp : FP} (e : EnvOk K F H σ ρ fp) (g : Grow2 K F H F' H') : EStep K T F H σ ρ fp F' H' ρ fp := by
  have nF : ∀ a, F a = none → H a ≠ none → ¬ KT H a → F' a = none := fun a h h' hk => by
    cases q : F' a with
    | none => rfl
    | some o => exact ((g.n a h (by rw [q]; exact fun z => nomatch z)).elim h' hk).elim
  have sH : ∀ a, Owns fp a → H' a = H a := fun a h => by
    cases q : H a with
    | none => exact absurd q (e.there h).1
    | some u => exact g.h a u q fun ps z => e.ntb h ps (z ▸ q)
  refine ⟨⟨⟨g.s, e.len, fun i s h => ?_, e.nil, e.nd, e.ap, g.t, e.al' (fun _ _ _ h => ⟨h, rfl⟩) fun i _ _ h => ⟨h, rfl, fun b hb => sH b ⟨i, hb⟩⟩⟩, g.f, fun b h h' => (g.n b h h').imp_right .inr, fun b h => g.d b h, fun b o h _ nt => g.h b o h nt, fun b h => .inl h, fun i m o h hm => ⟨rfl, m, o, h, hm⟩, fun i o h => ⟨rfl, h, rfl, fun b hb => sH b ⟨i, hb⟩⟩⟩, fun i m o h => ⟨o, h⟩, fun i _ => ⟨rfl, rfl, fun b hb => sH b ⟨i, hb⟩⟩⟩
  have q := e.sl i s h
  cases s with
  | no => trivial
  | al _ _ => trivial
  | val d => obtain ⟨u, e1, e2⟩ := q; exact ⟨u, e1, dq_mono g.f _ _ e2⟩
  | own m o =>
    obtain ⟨u, e1, e2⟩ := q
    exact ⟨u, e1, e2.move g.f fun b hb => ⟨sH b ⟨i, hb⟩, nF b (e2.mem b hb).2 (e2.mem b hb).1 (e2.nkt b hb)⟩⟩

/-! ### results -/
inductive Rv where
  | d (x : PyData)
  | o (i : Nat)
def RvOk (K : Fg) (F : Hp) (σ : Sg) (ρ : Rho) (v : V) : Rv → Prop
  | .d x => Dq K F v x
  | .o i => sg σ i = some v ∧ ∃ m t, ρ[i]? = some (Sl.own m t)
theorem RvOk.step {K : Fg} {T : List Nat} {F H F1 H1 : Hp} {σ : Sg} {ρ ρ1 : Rho} {fp fp1 : FP} {v : V} (a : EStep K T F H σ ρ fp F1 H1 ρ1 fp1) : ∀ {r : Rv}, RvOk K F σ ρ v r → RvOk K F1 σ ρ1 v r
  | .d _, h => dq_mono a.st.fr _ _ h
  | .o i, ⟨h, m, ob, e⟩ => ⟨h, let ⟨o', e'⟩ := a.ko i m ob e; ⟨m, o', e'⟩⟩
inductive RvsOk (K : Fg) (F : Hp) (σ : Sg) (ρ : Rho) : List V → List Rv → Prop
  | nil : RvsOk K F σ ρ [] []
  | cons {v vs r rs} : RvOk K F σ ρ v r → RvsOk K F σ ρ vs rs → RvsOk K F σ ρ (v :: vs) (r :: rs)
theorem RvsOk.step {K : Fg} {T : List Nat} {F H F1 H1 : Hp} {σ : Sg} {ρ ρ1 : Rho} {fp fp1 : FP} (a : EStep K T F H σ ρ fp F1 H1 ρ1 fp1) : ∀ {vs : List V} {rs : List Rv}, RvsOk K F σ ρ vs rs → RvsOk K F1 σ ρ1 vs rs
  | _, _, .nil => .nil
  | _, _, .cons h t => .cons (h.step a) (RvsOk.step a t)
/-- a new tree (of new objects, or of what was taken out of a slot) -/
structure NewOk (K : Fg) (H : Hp) (fp : FP) (F' H' : Hp) (fp' : FP) (v : V) (t : Tr) (A : List Addr) : Prop where
  ok : TrOk K F' H' v t A
  nd : A.Nodup
  new : ∀ b ∈ A, H b = none ∨ Owns fp b
  out : ∀ b ∈ A, ¬ Owns fp' b

/-- an expression's outcome: a result, or an exception (by its class's name) -/
inductive Er (α : Type) where
  | ok (a : α) (ρ : Rho)
  | ex (c : Str) (ρ : Rho)
abbrev M (α : Type) := Rho → Option (Er α)
def bnd {α β : Type} (f : M α) (k : α → M β) : M β := fun ρ => match f ρ with
  | some (.ok a ρ1) => k a ρ1
  | some (.ex c ρ1) => some (.ex c ρ1)
  | none => none
def ret {α : Type} (a : α) : M α := fun ρ => some (.ok a ρ)
def lift {α : Type} (o : Option α) : M α := fun ρ => match o with
  | some a => some (.ok a ρ)
  | none => none
/-- what is wanted of an exception: its class's name, the slots, the heap -/
abbrev WV := Str → Sg → Hp → Prop
/-- how a value of the machine stands to a result -/
structure Rl (K : Fg) (α β : Type) where
  r : Hp → FP → Hp → Hp → FP → Sg → Rho → β → α → Prop
  back : ∀ {T F H F1 H1 F2 H2 σ ρ ρ1 ρ2 fp fp1 fp2 b a}, EStep K T F H σ ρ fp F1 H1 ρ1 fp1 → r H1 fp1 F2 H2 fp2 σ ρ2 b a → r H fp F2 H2 fp2 σ ρ2 b a
def Pst {α β : Type} {K : Fg} (T : List Nat) (W : WV) (R : Rl K α β) (F H : Hp) (σ : Sg) (ρ : Rho) (fp : FP) (Q : β → Hp → Prop) : Er α → Prop
  | .ok a ρ' => ∀ b H' F' fp', EStep K T F H σ ρ fp F' H' ρ' fp' → R.r H fp F' H' fp' σ ρ' b a → Q b H'
  | .ex c ρ' => ∀ H' F' fp', EStep K T F H σ ρ fp F' H' ρ' fp' → W c σ H'
def TVg {α β : Type} {K : Fg} (T : List Nat) (W : WV) (R : Rl K α β) (f : M α) (σ : Sg) (H : Hp) (Q : β → Hp → Prop) : Prop :=
  ∃ F ρ fp o, EnvOk K F H σ ρ fp ∧ f ρ = some o ∧ Pst T W R F H σ ρ fp Q o
theorem Pst.step {α β : Type} {K : Fg} {T T' : List Nat} {W : WV} {R : Rl K α β} {F H F1 H1 : Hp} {σ : Sg} {ρ ρ1 : Rho} {fp fp1 : FP} {Q : β → Hp → Prop} (a : EStep K T F H σ ρ fp F1 H1 ρ1 fp1) (hT : ∀ i ∈ T, i ∈ T') :
    ∀ {o : Er α}, Pst T' W R F H σ ρ fp Q o → Pst T' W R F1 H1 σ ρ1 fp1 Q o
  | .ok _ _, h => fun b H' F' fp' e r => h b H' F' fp' ((a.sub hT).trans e) (R.back a r)
  | .ex _ _, h => fun H' F' fp' e => h H' F' fp' ((a.sub hT).trans e)
theorem tv_bnd {α β γ δ : Type} {K : Fg} {T T' : List Nat} {W : WV} {R : Rl K α β} {R2 : Rl K γ δ} {f : M α} {k : α → M γ} {F H : Hp} {σ : Sg} {ρ : Rho} {fp : FP} {o : Er γ} {Q : δ → Hp → Prop} {Q1 : β → Hp → Prop}
    (E : EnvOk K F H σ ρ fp) (e : bnd f k ρ = some o) (P : Pst T' W R2 F H σ ρ fp Q o) (hT : ∀ i ∈ T, i ∈ T')
    (hk : ∀ a ρ1 b H1 F1 fp1, EStep K T F H σ ρ fp F1 H1 ρ1 fp1 → R.r H fp F1 H1 fp1 σ ρ1 b a → k a ρ1 = some o → Pst T' W R2 F1 H1 σ ρ1 fp1 Q o → Q1 b H1) : TVg T W R f σ H Q1 := by
  unfold bnd at e
  cases q : f ρ with
  | none => rw [q] at e; cases e
  | some r =>
    rw [q] at e
    cases r with
    | ok a ρ1 => exact ⟨F, ρ, fp, _, E, q, fun b H1 F1 fp1 st r => hk a ρ1 b H1 F1 fp1 st r e (P.step st hT)⟩
    | ex c ρ1 =>
      cases e
      exact ⟨F, ρ, fp, _, E, q, fun H1 F1 fp1 st => P H1 F1 fp1 (st.sub hT)⟩
def rlV (K : Fg) : Rl K Rv V := ⟨fun _ _ F' _ _ σ ρ' v r => RvOk K F' σ ρ' v r, fun _ h => h⟩
def rlA (K : Fg) : Rl K (List Rv) (List V) := ⟨fun _ _ F' _ _ σ ρ' v r => RvsOk K F' σ ρ' v r, fun _ h => h⟩
def rlT (K : Fg) : Rl K Bool Bool := ⟨fun _ _ _ _ _ _ _ v r => v = r, fun _ h => h⟩
def rlN (K : Fg) : Rl K Tr V := ⟨fun H fp F' H' fp' _ _ v t => ∃ A, NewOk K H fp F' H' fp' v t A, fun e h => by
  obtain ⟨A, h⟩ := h
  refine ⟨A, h.ok, h.nd, fun b hb => ?_, h.out⟩
  rcases h.new b hb with z | z
  · exact .inl (e.st.dom b z)
  · exact (e.st.own b z).symm⟩
abbrev tV (K : Fg) (T : List Nat) (W : WV) (f : M Rv) : TE := fun σ H Q => TVg T W (rlV K) f σ H Q
abbrev tVN (K : Fg) (T : List Nat) (W : WV) (f : M Tr) : TE := fun σ H Q => TVg T W (rlN K) f σ H Q
abbrev tVT (K : Fg) (T : List Nat) (W : WV) (f : M Bool) : TT := fun σ H Q => TVg T W (rlT K) f σ H Q
abbrev tVA (K : Fg) (T : List Nat) (W : WV) (f : M (List Rv)) : TA := fun σ H Q => TVg T W (rlA K) f σ H Q
def VE (X : Cx) (T : List Nat) (W : WV) (e : Expr) (f : M Rv) : Prop := PE X e (tV X.K T W f)
def VN (X : Cx) (T : List Nat) (W : WV) (e : Expr) (f : M Tr) : Prop := PE X e (tVN X.K T W f)
def VT (X : Cx) (T : List Nat) (W : WV) (e : Expr) (f : M Bool) : Prop := PT X e (tVT X.K T W f)
def VW (X : Cx) (T : List Nat) (W : WV) (e : Expr) (f : M Bool) : Prop := PW X e (tVT X.K T W f)
def VA (X : Cx) (T : List Nat) (W : WV) (es : List Expr) (f : M (List Rv)) : Prop := PA X es (tVA X.K T W f)
theorem pe_imp {X : Cx} {e : Expr} {t t' : TE} (h : PE X e t) (i : ∀ σ H Q, t' σ H Q → t σ H Q) : PE X e t' := ⟨fun pins s σ H Q I q => h.run pins s σ H Q I (i σ H Q q)⟩
theorem pe_or {X : Cx} {e : Expr} {t t' : TE} (h : PE X e t) (h' : PE X e t') : PE X e (fun σ H Q => t σ H Q ∨ t' σ H Q) := ⟨fun pins s σ H Q I q => q.elim (h.run pins s σ H Q I) (h'.run pins s σ H Q I)⟩
theorem pt_imp {X : Cx} {e : Expr} {t t' : TT} (h : PT X e t) (i : ∀ σ H Q, t' σ H Q → t σ H Q) : PT X e t' := ⟨fun pins s σ H Q I q => h.run pins s σ H Q I (i σ H Q q)⟩
theorem pw_imp {X : Cx} {e : Expr} {t t' : TT} (h : PW X e t) (i : ∀ σ H Q, t' σ H Q → t σ H Q) : PW X e t' := ⟨fun wh pins s σ H Q I q => h.run wh pins s σ H Q I (i σ H Q q)⟩
theorem pa_imp {X : Cx} {e : List Expr} {t t' : TA} (h : PA X e t) (i : ∀ σ H Q, t' σ H Q → t σ H Q) : PA X e t' := ⟨fun pos pins s σ H Q I q => h.run pos pins s σ H Q I (i σ H Q q)⟩
theorem ps_imp {X : Cx} {e : Stmt} {t t' : TS} (h : PS X e t) (i : ∀ D σ H, t' D σ H → t D σ H) : PS X e t' := ⟨fun pins s σ H D I q => h.run pins s σ H D I (i D σ H q)⟩
theorem ps_or {X : Cx} {e : Stmt} {t t' : TS} (h : PS X e t) (h' : PS X e t') : PS X e (fun D σ H => t D σ H ∨ t' D σ H) := ⟨fun pins s σ H D I q => q.elim (h.run pins s σ H D I) (h'.run pins s σ H D I)⟩
theorem pss_imp {X : Cx} {e : List Stmt} {t t' : TS} (h : PSs X e t) (i : ∀ D σ H, t' D σ H → t D σ H) : PSs X e t' := ⟨fun pins s σ H D I q => h.run pins s σ H D I (i D σ H q)⟩

/-! ### what a result reads as -/
/-- as data, whatever -/
def der (ρ : Rho) : Rv → Option PyData
  | .d x => some x
  | .o i => match ρ[i]? with
    | some (.own _ t) => t.toD
    | _ => none
/-- an owned list of data alone, as data -/
def flat : List Tr → Option (List PyData)
  | [] => some []
  | .dat d :: ts => (flat ts).map (d :: ·)
  | _ :: _ => none
def derS (ρ : Rho) : Rv → Option PyData
  | .d x => some x
  | .o i => match ρ[i]? with
    | some (.own _ (.lst ts)) => (flat ts).map .list
    | _ => none
theorem flat_ok : ∀ {ts : List Tr} {ds : List PyData}, flat ts = some ds → ts = ds.map .dat
  | [], _, e => by simp only [flat] at e; cases e; rfl
  | .dat d :: ts, ds, e => by
    simp only [flat] at e
    cases z : flat ts with
    | none => rw [z] at e; cases e
    | some es => rw [z] at e; cases e; rw [flat_ok z]; rfl
  | .tup _ :: _, _, e => by simp [flat] at e
  | .lst _ :: _, _, e => by simp [flat] at e
  | .dk _ :: _, _, e => by simp [flat] at e
  | .dt _ :: _, _, e => by simp [flat] at e
  | .ins _ _ :: _, _, e => by simp [flat] at e
  | .fk _ :: _, _, e => by simp [flat] at e
  | .ft _ :: _, _, e => by simp [flat] at e
  | .raw _ :: _, _, e => by simp [flat] at e
  | .hole :: _, _, e => by simp [flat] at e
theorem flat_dat : ∀ ds : List PyData, flat (ds.map .dat) = some ds
  | [] => rfl
  | d :: ds => by simp [flat, flat_dat ds]
theorem der_ok {K : Fg} {F H : Hp} {σ : Sg} {ρ : Rho} {fp : FP} {v : V} {d : PyData} (E : EnvOk K F H σ ρ fp) : ∀ {r : Rv}, RvOk K F σ ρ v r → der ρ r = some d → Dq K H v d
  | .d x, h, e => by simp only [der] at e; cases e; exact dq_mono E.sub _ _ h
  | .o i, ⟨h, m, t, e⟩, q => by
    simp only [der, e] at q
    obtain ⟨u, e1, e2⟩ := E.sl i _ e
    rw [h] at e1
    cases e1
    exact e2.dp E.sub (fun _ _ => rfl) q
/-- data, or an owned list of data -/
def DpS (K : Fg) (F H : Hp) (v : V) (d : PyData) : Prop := Dq K F v d ∨ ∃ a vs ds, v = .ref a ∧ d = .list ds ∧ H a = some (.lst vs) ∧ DqAll K F vs ds
theorem derS_ok {K : Fg} {F H : Hp} {σ : Sg} {ρ : Rho} {fp : FP} {v : V} {d : PyData} (E : EnvOk K F H σ ρ fp) : ∀ {r : Rv}, RvOk K F σ ρ v r → derS ρ r = some d → DpS K F H v d
  | .d x, h, e => by simp only [derS] at e; cases e; exact .inl h
  | .o i, ⟨h, m, t, e⟩, q => by
    simp only [derS, e] at q
    obtain ⟨u, e1, e2⟩ := E.sl i _ e
    rw [h] at e1
    cases e1
    cases t with
    | lst ts =>
      cases z : flat ts with
      | none => simp only [z] at q; cases q
      | some ds =>
        simp only [z] at q
        cases q
        have := flat_ok z
        subst this
        generalize fp i = A at e2
        cases e2 with
        | lst h1 h2 h3 =>
          obtain ⟨_, h4⟩ := trs_dat' h3
          exact .inr ⟨_, _, ds, rfl, rfl, h1, h4⟩
    | _ => cases q
theorem DpS.dp {K : Fg} {F H : Hp} {v : V} {d : PyData} (s : Same F H) (h : DpS K F H v d) : Dq K H v d := by
  rcases h with h | ⟨a, vs, ds, rfl, rfl, h1, h2⟩
  · exact dq_mono s _ _ h
  · exact .lst (.inl h1) (dqAll_mono s _ _ h2)
theorem DpS.list {K : Fg} {F H : Hp} {v : V} {ds : List PyData} (s : Same F H) (h : DpS K F H v (.list ds)) : ∃ a vs, v = .ref a ∧ Rd H a (.lst vs) ∧ DqAll K F vs ds := by
  rcases h with h | ⟨a, vs, ds', rfl, e, h1, h2⟩
  · cases h with
    | lst hs ha => exact ⟨_, _, rfl, rd_mono s hs, ha⟩
  · cases e; exact ⟨a, vs, rfl, .inl h1, h2⟩
theorem DpS.tup {K : Fg} {F H : Hp} {v : V} {ds : List PyData} (s : Same F H) (h : DpS K F H v (.tuple ds)) : ∃ a vs, v = .ref a ∧ SqT K H a vs ∧ DqAll K F vs ds ∧ Dq K F v (.tuple ds) := by
  rcases h with h | ⟨a, vs, ds', rfl, e, h1, h2⟩
  · cases h with
    | tups hs ha => exact ⟨_, _, rfl, (hs.mono s).sq, ha, .tups hs ha⟩
  · cases e
theorem DpS.int {K : Fg} {F H : Hp} {v : V} {i : Int} (h : DpS K F H v (.int i)) : v = .int i := by
  rcases h with h | ⟨a, vs, ds', rfl, e, h1, h2⟩
  · cases h; rfl
  · cases e
theorem DpS.bl {K : Fg} {F H : Hp} {v : V} {i : Bool} (h : DpS K F H v (.bool i)) : v = .bl i := by
  rcases h with h | ⟨a, vs, ds', rfl, e, h1, h2⟩
  · cases h; rfl
  · cases e
theorem DpS.str {K : Fg} {F H : Hp} {v : V} {i : Str} (h : DpS K F H v (.str i)) : v = .str i := by
  rcases h with h | ⟨a, vs, ds', rfl, e, h1, h2⟩
  · cases h; rfl
  · cases e
theorem DpS.non {K : Fg} {F H : Hp} {v : V} (h : DpS K F H v .none) : v = .non := by
  rcases h with h | ⟨a, vs, ds', rfl, e, h1, h2⟩
  · cases h; rfl
  · cases e
end VL

end

section
set_option Elab.async false
set_option linter.all false
set_option maxRecDepth 100000
namespace VL
open PySem PySem.Spec PyProof.Rows L2

section
variable {X : Cx} {T T1 T2 T3 : List Nat} {W : WV}
theorem ok_inj {α : Type} {a : α} {ρ : Rho} {o : Er α} (h : some (Er.ok a ρ) = some o) : o = .ok a ρ := (Option.some.inj h).symm

/-! ### constants, names -/
def cD (x : PyData) : M Rv := ret (.d x)
theorem ve_int {i j pos} : VE X [] W (.Constant (.int i) j pos) (cD (.int i)) := pe_imp pe_int fun σ H Q ⟨F, ρ, fp, o, E, e, P⟩ => by
  cases ok_inj e
  exact P _ H F fp (.refl E) (.int i)
theorem ve_bl {i j pos} : VE X [] W (.Constant (.bool i) j pos) (cD (.bool i)) := pe_imp pe_bl fun σ H Q ⟨F, ρ, fp, o, E, e, P⟩ => by
  cases ok_inj e
  exact P _ H F fp (.refl E) (.bl i)
theorem ve_non {j pos} : VE X [] W (.Constant .none j pos) (cD .none) := pe_imp pe_non fun σ H Q ⟨F, ρ, fp, o, E, e, P⟩ => by
  cases ok_inj e
  exact P _ H F fp (.refl E) .non
theorem ve_str {i j pos} : VE X [] W (.Constant (.str i) j pos) (cD (.str i)) := pe_imp pe_str fun σ H Q ⟨F, ρ, fp, o, E, e, P⟩ => by
  cases ok_inj e
  exact P _ H F fp (.refl E) (.str i)
theorem ve_strC {i k : Str} (h : i = k) {j pos} : VE X [] W (.Constant (.str i) j pos) (cD (.str k)) := by
  subst h
  exact ve_str
def cVar (i : Nat) : M Rv := fun ρ => match ρ[i]? with
  | some (.val d) => some (.ok (.d d) ρ)
  | some (.own _ (.dat d)) => some (.ok (.d d) ρ)
  | some (.own _ _) => some (.ok (.o i) ρ)
  | _ => none
theorem ve_var (i : Nat) {x : Str} {pos : Pos} (hN : X.N[i]? = some x := by rfl) (hv : Vis X.env.scope x := by first | exact Or.inl rfl | exact Or.inr (Or.inl rfl) | exact Or.inr (Or.inr rfl)) (hd : (x == ("__debug__" : Str)) = false := by decide)
    (hcd : (x == ("__classdict__" : Str)) = false := by decide) : VE X [] W (.Name x pos) (cVar i) := by
  refine pe_imp (pe_var hN hv hd hcd) fun σ H Q ⟨F, ρ, fp, o, E, e, P⟩ => ?_
  unfold cVar at e
  split at e
  · rename_i d h
    cases ok_inj e
    obtain ⟨u, hu, q⟩ := E.sl i _ h
    exact ⟨u, sg_some.mp hu, P u H F fp (.refl E) q⟩
  · rename_i m d h
    cases ok_inj e
    obtain ⟨u, hu, q⟩ := E.sl i _ h
    generalize fp i = A at q
    cases q with
    | dat q => exact ⟨u, sg_some.mp hu, P u H F fp (.refl E) q⟩
  · rename_i m t _ h
    cases ok_inj e
    obtain ⟨u, hu, q⟩ := E.sl i _ h
    exact ⟨u, sg_some.mp hu, P u H F fp (.refl E) ⟨hu, m, t, h⟩⟩
  · cases e
/-- a module's constant that is plain -/
theorem ve_glob {x : Str} {d : PyData} {v : V} {u : Value} {pos : Pos} (hg : Gl X x) (hm : X.mg x = some u) (r : RelV v u) (hd : ∀ F, Dq X.K F v d) (hdb : (x == ("__debug__" : Str)) = false := by decide) : VE X [] W (.Name x pos) (cD d) :=
  pe_imp (pe_glob hg hm r hdb) fun σ H Q ⟨F, ρ, fp, o, E, e, P⟩ => by
    cases ok_inj e
    exact P _ H F fp (.refl E) (hd F)

/-! ### two operands -/
def OpOk (K : Fg) (r : R2) (g : PyData → PyData → Option PyData) : Prop := ∀ F H x y dx dy z Q, Same F H → DpS K F H x dx → DpS K F H y dy → g dx dy = some z → (∀ v F' H', Grow F H F' H' → Dq K F' v z → Q v H') → r x y H Q
def bin1 (g : PyData → PyData → Option PyData) (x y : Rv) : M Rv := fun ρ => match derS ρ x, derS ρ y with
  | some a, some b => (match g a b with
    | some z => some (.ok (.d z) ρ)
    | none => none)
  | _, _ => none
def cBin (g : PyData → PyData → Option PyData) (fa fb : M Rv) : M Rv := bnd fa fun x => bnd fb fun y => bin1 g x y
variable {fa fb fc : M Rv} {g : PyData → PyData → Option PyData} {r r' : R2} {a b c : Expr} {pos : Pos}
theorem tv_bin {σ : Sg} {H : Hp} {Q : VK} (hg : OpOk X.K r g) (h : tV X.K (T1 ++ T2) W (cBin g fa fb) σ H Q) : tOp r (tV X.K T1 W fa) (tV X.K T2 W fb) σ H Q := by
  obtain ⟨F, ρ, fp, o, E, e, P⟩ := h
  refine tv_bnd E e P (fun i hi => List.mem_append_left _ hi) fun x ρ1 v H1 F1 fp1 s1 r1 e1 P1 => ?_
  refine tv_bnd s1.env e1 P1 (fun i hi => List.mem_append_right _ hi) fun y ρ2 w H2 F2 fp2 s2 r2 e2 P2 => ?_
  unfold bin1 at e2
  split at e2
  · rename_i p q hp hq
    split at e2
    · rename_i z hz
      cases ok_inj e2
      exact hg F2 H2 v w p q z Q s2.env.sub (derS_ok s2.env (RvOk.step s2 r1) hp) (derS_ok s2.env r2 hq) hz fun v' F3 H3 gr dp => P2 v' H3 F3 fp2 (gr.step s2.env) dp
    · cases e2
  · cases e2
theorem ve_bin {op : Operator} (ho : OpR X (binaryOp op) r) (hg : OpOk X.K r g) (ha : VE X T1 W a fa) (hb : VE X T2 W b fb) : VE X (T1 ++ T2) W (.BinOp a op b pos) (cBin g fa fb) :=
  pe_imp (pe_op ho ha hb) fun σ H Q h => tv_bin hg h
/-- deep: what is compared -/
def OpOkD (K : Fg) (r : R2) (g : PyData → PyData → Option Bool) : Prop := ∀ H x y dx dy z (Q : VK), Dq K H x dx → Dq K H y dy → g dx dy = some z → Q (.bl z) H → r x y H Q
def binD (g : PyData → PyData → Option Bool) (x y : Rv) : M Bool := fun ρ => match der ρ x, der ρ y with
  | some a, some b => (match g a b with
    | some z => some (.ok z ρ)
    | none => none)
  | _, _ => none
def cCmp (g : PyData → PyData → Option Bool) (fa fb : M Rv) : M Bool := bnd fa fun x => bnd fb fun y => binD g x y
def cOf (f : M Bool) : M Rv := bnd f fun b => ret (.d (.bool b))
variable {gd gd' : PyData → PyData → Option Bool} {fA fB : M Bool}
theorem tv_cmp {σ : Sg} {H : Hp} {Q : Bool → Hp → Prop} (hg : OpOkD X.K r gd) (h : tVT X.K (T1 ++ T2) W (cCmp gd fa fb) σ H Q) : tTest (tOp r (tV X.K T1 W fa) (tV X.K T2 W fb)) σ H Q := by
  obtain ⟨F, ρ, fp, o, E, e, P⟩ := h
  refine tv_bnd E e P (fun i hi => List.mem_append_left _ hi) fun x ρ1 v H1 F1 fp1 s1 r1 e1 P1 => ?_
  refine tv_bnd s1.env e1 P1 (fun i hi => List.mem_append_right _ hi) fun y ρ2 w H2 F2 fp2 s2 r2 e2 P2 => ?_
  unfold binD at e2
  split at e2
  · rename_i p q hp hq
    split at e2
    · rename_i z hz
      cases ok_inj e2
      exact hg H2 v w p q z _ (der_ok s2.env (RvOk.step s2 r1) hp) (der_ok s2.env r2 hq) hz ⟨z, rfl, P2 z H2 F2 fp2 (.refl s2.env) rfl⟩
    · cases e2
  · cases e2
theorem vt_cmp {op : CmpOp} (ho : OpR X (compareOp op) r) (hg : OpOkD X.K r gd) (ha : VE X T1 W a fa) (hb : VE X T2 W b fb) (hm : behindInMarks op b = false) : VT X (T1 ++ T2) W (.Compare a [op] [b] pos) (cCmp gd fa fb) :=
  pt_imp (pt_cmpR ho ha hb hm) fun σ H Q h => tv_cmp hg h
/-- from a test's form to the value's -/
theorem of_cOf {K : Fg} {f : M Bool} {σ : Sg} {H : Hp} {Q : VK} (h : tV K T W (cOf f) σ H Q) : tVT K T W f σ H fun b H1 => Q (.bl b) H1 := by
  obtain ⟨F, ρ, fp, o, E, e, P⟩ := h
  refine tv_bnd E e P (fun i hi => hi) fun x ρ1 v H1 F1 fp1 s1 r1 e1 P1 => ?_
  cases ok_inj e1
  have r1 : v = x := r1
  subst r1
  exact P1 _ H1 F1 fp1 (.refl s1.env) (.bl v)
theorem ve_cmp {op : CmpOp} (ho : OpR X (compareOp op) r) (hg : OpOkD X.K r gd) (ha : VE X T1 W a fa) (hb : VE X T2 W b fb) (hm : behindInMarks op b = false) : VE X (T1 ++ T2) W (.Compare a [op] [b] pos) (cOf (cCmp gd fa fb)) := by
  refine pe_imp (pe_cmpR ho ha hb hm) fun σ H Q h => ?_
  obtain ⟨F, ρ, fp, o, E, e, P⟩ := of_cOf h
  refine tv_bnd E e P (fun i hi => List.mem_append_left _ hi) fun x ρ1 v H1 F1 fp1 s1 r1 e1 P1 => ?_
  refine tv_bnd s1.env e1 P1 (fun i hi => List.mem_append_right _ hi) fun y ρ2 w H2 F2 fp2 s2 r2 e2 P2 => ?_
  unfold binD at e2
  split at e2
  · rename_i p q hp hq
    split at e2
    · rename_i z hz
      cases ok_inj e2
      exact hg H2 v w p q z _ (der_ok s2.env (RvOk.step s2 r1) hp) (der_ok s2.env r2 hq) hz (P2 z H2 F2 fp2 (.refl s2.env) rfl)
    · cases e2
  · cases e2
/-- a chain of two comparisons -/
def cChain (g g' : PyData → PyData → Option Bool) (fa fb fc : M Rv) : M Bool := bnd fa fun x => bnd fb fun y => bnd (binD g x y) fun k => if k then bnd fc fun z => binD g' y z else ret false
theorem tv_chain {σ : Sg} {H : Hp} {Q : VK} (hg : OpOkD X.K r gd) (hg' : OpOkD X.K r' gd') (h : tVT X.K (T1 ++ T2 ++ T3) W (cChain gd gd' fa fb fc) σ H fun b H1 => Q (.bl b) H1) :
    tChain r r' (tV X.K T1 W fa) (tV X.K T2 W fb) (tV X.K T3 W fc) σ H Q := by
  obtain ⟨F, ρ, fp, o, E, e, P⟩ := h
  refine tv_bnd E e P (fun i hi => List.mem_append_left _ (List.mem_append_left _ hi)) fun x ρ1 v H1 F1 fp1 s1 r1 e1 P1 => ?_
  refine tv_bnd s1.env e1 P1 (fun i hi => List.mem_append_left _ (List.mem_append_right _ hi)) fun y ρ2 w H2 F2 fp2 s2 r2 e2 P2 => ?_
  unfold bnd at e2
  split at e2
  · rename_i k ρ3 hk
    unfold binD at hk
    split at hk
    · rename_i p q hp hq
      split at hk
      · rename_i z hz
        cases ok_inj hk
        refine hg H2 v w p q _ _ (der_ok s2.env (RvOk.step s2 r1) hp) (der_ok s2.env r2 hq) hz ⟨_, rfl, ?_⟩
        cases k with
        | false =>
          simp only [Bool.false_eq_true, if_false] at e2 ⊢
          cases ok_inj e2
          exact P2 false H2 F2 fp2 (.refl s2.env) rfl
        | true =>
          simp only [if_true] at e2 ⊢
          refine tv_bnd s2.env e2 P2 (fun i hi => List.mem_append_right _ hi) fun y' ρ3 w' H3 F3 fp3 s3 r3 e3 P3 => ?_
          unfold binD at e3
          split at e3
          · rename_i p' q' hp' hq'
            split at e3
            · rename_i z' hz'
              cases ok_inj e3
              exact hg' H3 w w' p' q' z' _ (der_ok s3.env (RvOk.step s3 r2) hp') (der_ok s3.env r3 hq') hz' (P3 z' H3 F3 fp3 (.refl s3.env) rfl)
            · cases e3
          · cases e3
      · cases hk
    · cases hk
  · rename_i k ρ3 hk
    unfold binD at hk
    split at hk
    · split at hk
      · cases hk
      · cases hk
    · cases hk
  · cases e2
theorem ve_chain {op op' : CmpOp} (ho : OpR X (compareOp op) r) (ho' : OpR X (compareOp op') r') (hg : OpOkD X.K r gd) (hg' : OpOkD X.K r' gd') (ha : VE X T1 W a fa) (hb : VE X T2 W b fb) (hc : VE X T3 W c fc)
    (hm : lastMarks [op, op'] [b, c] = false := by with_unfolding_all rfl) : VE X (T1 ++ T2 ++ T3) W (.Compare a [op, op'] [b, c] pos) (cOf (cChain gd gd' fa fb fc)) :=
  pe_imp (pe_chain ho ho' ha hb hc hm) fun σ H Q h => tv_chain hg hg' (of_cOf h)
theorem vt_chain {op op' : CmpOp} (ho : OpR X (compareOp op) r) (ho' : OpR X (compareOp op') r') (hg : OpOkD X.K r gd) (hg' : OpOkD X.K r' gd') (ha : VE X T1 W a fa) (hb : VE X T2 W b fb) (hc : VE X T3 W c fc)
    (hm : lastMarks [op, op'] [b, c] = false := by with_unfolding_all rfl) : VT X (T1 ++ T2 ++ T3) W (.Compare a [op, op'] [b, c] pos) (cChain gd gd' fa fb fc) :=
  pt_imp (pt_chain ho ho' ha hb hc hm) fun σ H Q h => by
    refine tv_chain hg hg' (Q := fun x H' => ∃ k, x = V.bl k ∧ Q k H') ?_
    obtain ⟨F, ρ, fp, o, E, e, P⟩ := h
    refine ⟨F, ρ, fp, o, E, e, ?_⟩
    cases o with
    | ok a ρ' => exact fun b' H' F' fp' s r => ⟨b', rfl, P b' H' F' fp' s r⟩
    | ex c ρ' => exact P

/-! ### tests, and, or, not, if -/
def asB (ρ : Rho) (x : Rv) : Option Bool := match der ρ x with
  | some (.bool b) => some b
  | _ => none
def cTest (f : M Rv) : M Bool := bnd f fun x => fun ρ => match asB ρ x with
  | some b => some (.ok b ρ)
  | none => none
theorem tv_test {σ : Sg} {H : Hp} {Q : Bool → Hp → Prop} (h : tVT X.K T W (cTest fa) σ H Q) : TVg T W (rlV X.K) fa σ H fun x H1 => ∃ c, x = V.bl c ∧ Q c H1 := by
  obtain ⟨F, ρ, fp, o, E, e, P⟩ := h
  refine tv_bnd E e P (fun i hi => hi) fun x ρ1 v H1 F1 fp1 s1 r1 e1 P1 => ?_
  split at e1
  · rename_i b hb
    cases ok_inj e1
    unfold asB at hb
    split at hb
    · rename_i b' hd
      cases hb
      have q := der_ok s1.env r1 hd
      cases q
      exact ⟨_, rfl, P1 _ H1 F1 fp1 (.refl s1.env) rfl⟩
    · cases hb
  · cases e1
theorem vt_val (ha : VE X T W a fa) (he : ∀ whole, isTrue a X.env whole = (do let v ← whole; standAt a.pos; holding [v] (truthy v)) := by intro _; rfl) : VT X T W a (cTest fa) :=
  pt_imp (pt_val ha he) fun σ H Q h => tv_test h
def cNot (f : M Bool) : M Bool := bnd f fun b => ret (!b)
theorem tv_not {K : Fg} {σ : Sg} {H : Hp} {Q : Bool → Hp → Prop} (h : tVT K T W (cNot fA) σ H Q) : tVT K T W fA σ H fun c H1 => Q (!c) H1 := by
  obtain ⟨F, ρ, fp, o, E, e, P⟩ := h
  refine tv_bnd E e P (fun i hi => hi) fun x ρ1 v H1 F1 fp1 s1 r1 e1 P1 => ?_
  cases ok_inj e1
  have r1 : v = x := r1
  subst r1
  exact P1 _ H1 F1 fp1 (.refl s1.env) rfl
theorem vt_not (ha : VT X T W a fA) : VT X T W (.UnaryOp .Not a pos) (cNot fA) := pt_imp (pt_not ha) fun σ H Q h => tv_not h
def cAnd (f g : M Bool) : M Bool := bnd f fun b => if b then g else ret false
def cOr (f g : M Bool) : M Bool := bnd f fun b => if b then ret true else g
variable {rest : List Expr}
theorem vw_and1 (ha : VT X T W a fA) : VW X T W (.BoolOp .And [a] pos) fA := pw_and1 ha
theorem vw_or1 (ha : VT X T W a fA) : VW X T W (.BoolOp .Or [a] pos) fA := pw_or1 ha
theorem vw_and (ha : VT X T1 W a fA) (hb : VW X T2 W (.BoolOp .And (b :: rest) pos) fB) : VW X (T1 ++ T2) W (.BoolOp .And (a :: b :: rest) pos) (cAnd fA fB) :=
  pw_imp (pw_and ha hb) fun σ H Q ⟨F, ρ, fp, o, E, e, P⟩ => by
    refine tv_bnd E e P (fun i hi => List.mem_append_left _ hi) fun x ρ1 v H1 F1 fp1 s1 r1 e1 P1 => ?_
    have r1 : v = x := r1
    subst r1
    cases v with
    | true =>
      rw [if_pos rfl] at e1 ⊢
      refine ⟨F1, ρ1, fp1, o, s1.env, e1, ?_⟩
      cases o with
      | ok a ρ' => exact fun b' H' F' fp' s r => P1 b' H' F' fp' (s.sub fun i hi => List.mem_append_right _ hi) r
      | ex c ρ' => exact fun H' F' fp' s => P1 H' F' fp' (s.sub fun i hi => List.mem_append_right _ hi)
    | false =>
      rw [if_neg Bool.false_ne_true] at e1 ⊢
      cases ok_inj e1
      exact P1 _ H1 F1 fp1 (.refl s1.env) rfl
theorem vw_or (ha : VT X T1 W a fA) (hb : VW X T2 W (.BoolOp .Or (b :: rest) pos) fB) : VW X (T1 ++ T2) W (.BoolOp .Or (a :: b :: rest) pos) (cOr fA fB) :=
  pw_imp (pw_or ha hb) fun σ H Q ⟨F, ρ, fp, o, E, e, P⟩ => by
    refine tv_bnd E e P (fun i hi => List.mem_append_left _ hi) fun x ρ1 v H1 F1 fp1 s1 r1 e1 P1 => ?_
    have r1 : v = x := r1
    subst r1
    cases v with
    | false =>
      rw [if_neg Bool.false_ne_true] at e1 ⊢
      refine ⟨F1, ρ1, fp1, o, s1.env, e1, ?_⟩
      cases o with
      | ok a ρ' => exact fun b' H' F' fp' s r => P1 b' H' F' fp' (s.sub fun i hi => List.mem_append_right _ hi) r
      | ex c ρ' => exact fun H' F' fp' s => P1 H' F' fp' (s.sub fun i hi => List.mem_append_right _ hi)
    | true =>
      rw [if_pos rfl] at e1 ⊢
      cases ok_inj e1
      exact P1 _ H1 F1 fp1 (.refl s1.env) rfl
theorem vw_pt (h : VW X T W a fA) : VT X T W a fA := PW.pt h
/-- .. as values: all but the last are truths -/
def cAndV (f : M Rv) (g : M Rv) : M Rv := bnd (cTest f) fun b => if b then g else ret (.d (.bool false))
def cOrV (f : M Rv) (g : M Rv) : M Rv := bnd (cTest f) fun b => if b then ret (.d (.bool true)) else g
theorem ve_one {op} (h : VE X T W a fa) : VE X T W (.BoolOp op [a] pos) fa := pe_one h
theorem tv_cond {K : Fg} {γ δ : Type} {R : Rl K γ δ} {f : M γ} {σ : Sg} {F H : Hp} {ρ : Rho} {fp : FP} {o : Er γ} {Q : δ → Hp → Prop} (E : EnvOk K F H σ ρ fp) (e : f ρ = some o) (P : Pst T W R F H σ ρ fp Q o) (hT : ∀ i ∈ T1, i ∈ T) : TVg T1 W R f σ H Q := by
  refine ⟨F, ρ, fp, o, E, e, ?_⟩
  cases o with
  | ok a ρ' => exact fun b' H' F' fp' s r => P b' H' F' fp' (s.sub hT) r
  | ex c ρ' => exact fun H' F' fp' s => P H' F' fp' (s.sub hT)
theorem tv_tbnd {K : Fg} {γ δ : Type} {R : Rl K γ δ} {f : M Rv} {k : Bool → M γ} {σ : Sg} {F H : Hp} {ρ : Rho} {fp : FP} {o : Er γ} {Q : δ → Hp → Prop} {Q1 : VK} (E : EnvOk K F H σ ρ fp) (e : bnd (cTest f) k ρ = some o) (P : Pst T W R F H σ ρ fp Q o) (hT : ∀ i ∈ T1, i ∈ T)
    (hk : ∀ b ρ1 H1 F1 fp1, EStep K T1 F H σ ρ fp F1 H1 ρ1 fp1 → k b ρ1 = some o → Pst T W R F1 H1 σ ρ1 fp1 Q o → Q1 (.bl b) H1) : TVg T1 W (rlV K) f σ H Q1 := by
  have e' : bnd f (fun x => bnd (fun ρ => match asB ρ x with | some b => some (.ok b ρ) | none => none) k) ρ = some o := by
    rw [← e]
    unfold cTest bnd
    cases f ρ with
    | none => rfl
    | some r => cases r <;> rfl
  refine tv_bnd E e' P hT fun x ρ1 v H1 F1 fp1 s1 r1 e1 P1 => ?_
  unfold bnd at e1
  cases hb : asB ρ1 x with
  | none => simp only [hb] at e1; cases e1
  | some b =>
    simp only [hb] at e1
    unfold asB at hb
    split at hb
    · rename_i b' hd
      cases hb
      have q := der_ok s1.env r1 hd
      cases q
      exact hk _ ρ1 H1 F1 fp1 s1 e1 P1
    · cases hb
theorem ve_and (ha : VE X T1 W a fa) (hb : VE X T2 W (.BoolOp .And (b :: rest) pos) fb) : VE X (T1 ++ T2) W (.BoolOp .And (a :: b :: rest) pos) (cAndV fa fb) :=
  pe_imp (L2.pe_and ha hb) fun σ H Q ⟨F, ρ, fp, o, E, e, P⟩ => by
    refine tv_tbnd E e P (fun i hi => List.mem_append_left _ hi) fun v ρ1 H1 F1 fp1 s1 e1 P1 => ⟨v, rfl, ?_⟩
    cases v with
    | true =>
      rw [if_pos rfl] at e1 ⊢
      exact tv_cond s1.env e1 P1 fun i hi => List.mem_append_right _ hi
    | false =>
      rw [if_neg Bool.false_ne_true] at e1 ⊢
      cases ok_inj e1
      exact P1 _ H1 F1 fp1 (.refl s1.env) (.bl _)
theorem ve_or (ha : VE X T1 W a fa) (hb : VE X T2 W (.BoolOp .Or (b :: rest) pos) fb) : VE X (T1 ++ T2) W (.BoolOp .Or (a :: b :: rest) pos) (cOrV fa fb) :=
  pe_imp (L2.pe_or ha hb) fun σ H Q ⟨F, ρ, fp, o, E, e, P⟩ => by
    refine tv_tbnd E e P (fun i hi => List.mem_append_left _ hi) fun v ρ1 H1 F1 fp1 s1 e1 P1 => ⟨v, rfl, ?_⟩
    cases v with
    | false =>
      rw [if_neg Bool.false_ne_true] at e1 ⊢
      exact tv_cond s1.env e1 P1 fun i hi => List.mem_append_right _ hi
    | true =>
      rw [if_pos rfl] at e1 ⊢
      cases ok_inj e1
      exact P1 _ H1 F1 fp1 (.refl s1.env) (.bl _)
def cNotV (f : M Rv) : M Rv := bnd (cTest f) fun b => ret (.d (.bool (!b)))
theorem ve_not (ha : VE X T W a fa) : VE X T W (.UnaryOp .Not a pos) (cNotV fa) :=
  pe_imp (L2.pe_not ha) fun σ H Q ⟨F, ρ, fp, o, E, e, P⟩ => by
    refine tv_tbnd E e P (fun i hi => hi) fun v ρ1 H1 F1 fp1 s1 e1 P1 => ⟨v, rfl, ?_⟩
    cases ok_inj e1
    exact P1 _ H1 F1 fp1 (.refl s1.env) (.bl _)
def cIf {α : Type} (c : M Bool) (f g : M α) : M α := bnd c fun b => if b then f else g
theorem ve_if (hc : VT X T1 W c fA) (ha : VE X T2 W a fa) (hb : VE X T3 W b fb) : VE X (T1 ++ T2 ++ T3) W (.IfExp c a b pos) (cIf fA fa fb) :=
  pe_imp (pe_ifExp hc ha hb) fun σ H Q ⟨F, ρ, fp, o, E, e, P⟩ => by
    refine tv_bnd E e P (fun i hi => List.mem_append_left _ (List.mem_append_left _ hi)) fun x ρ1 v H1 F1 fp1 s1 r1 e1 P1 => ?_
    have r1 : v = x := r1
    subst r1
    cases v with
    | true =>
      rw [if_pos rfl] at e1 ⊢
      exact tv_cond s1.env e1 P1 fun i hi => List.mem_append_left _ (List.mem_append_right _ hi)
    | false =>
      rw [if_neg Bool.false_ne_true] at e1 ⊢
      exact tv_cond s1.env e1 P1 fun i hi => List.mem_append_right _ hi

/-! ### argument lists, displays -/
def aNil : M (List Rv) := ret []
def aCons (f : M Rv) (g : M (List Rv)) : M (List Rv) := bnd f fun x => bnd g fun xs => ret (x :: xs)
variable {es : List Expr} {e : Expr} {fs : M (List Rv)}
theorem va_nil : VA X [] W [] aNil := pa_imp pa_nil fun σ H Q ⟨F, ρ, fp, o, E, e, P⟩ => by
  cases ok_inj e
  exact P _ H F fp (.refl E) .nil
theorem va_cons (ha : VE X T1 W e fa) (hb : VA X T2 W es fs) (hs : starEach (e :: es) X.env = (false, eval e X.env) :: starEach es X.env := by rfl) : VA X (T1 ++ T2) W (e :: es) (aCons fa fs) :=
  pa_imp (pa_cons ha hb hs) fun σ H Q ⟨F, ρ, fp, o, E, e, P⟩ => by
    refine tv_bnd E e P (fun i hi => List.mem_append_left _ hi) fun x ρ1 v H1 F1 fp1 s1 r1 e1 P1 => ?_
    refine tv_bnd s1.env e1 P1 (fun i hi => List.mem_append_right _ hi) fun y ρ2 w H2 F2 fp2 s2 r2 e2 P2 => ?_
    cases ok_inj e2
    exact P2 _ H2 F2 fp2 (.refl s2.env) (.cons (RvOk.step s2 r1) r2)
/-- all are data -/
def datas : List Rv → Option (List PyData)
  | [] => some []
  | .d x :: rs => (datas rs).map (x :: ·)
  | .o _ :: _ => none
theorem datas_ok {K : Fg} {F : Hp} {σ : Sg} {ρ : Rho} : ∀ {vs : List V} {rs : List Rv} {ds : List PyData}, RvsOk K F σ ρ vs rs → datas rs = some ds → DqAll K F vs ds
  | _, _, _, .nil, e => by simp only [datas] at e; cases e; exact .nil
  | _, .d x :: rs, _, .cons h t, e => by
    simp only [datas] at e
    cases q : datas rs with
    | none => rw [q] at e; cases e
    | some ds => rw [q] at e; cases e; exact .cons h (datas_ok t q)
  | _, .o _ :: _, _, .cons _ _, e => by simp [datas] at e
def small (n : Nat) : Bool := decide (n ≤ sizeLine)
def mkTup (rs : List Rv) : M Rv := fun ρ => match datas rs with
  | some ds => if small ds.length then some (.ok (.d (.tuple ds)) ρ) else none
  | none => none
def cTup (fs : M (List Rv)) : M Rv := bnd fs mkTup
theorem ve_tup {x1} (h : VA X T W es fs) : VE X T W (.Tuple es x1 pos) (cTup fs) := pe_imp (pe_tup h) fun σ H Q ⟨F, ρ, fp, o, E, e, P⟩ => by
  refine tv_bnd E e P (fun i hi => hi) fun rs ρ1 vs H1 F1 fp1 s1 r1 e1 P1 => ?_
  unfold mkTup at e1
  split at e1
  · rename_i ds hd
    split at e1
    · rename_i hz
      cases ok_inj e1
      have q := datas_ok r1 hd
      refine ⟨by rw [dqAll_len q]; exact of_decide_eq_true hz, fun p np => P1 _ _ _ fp1 ((Grow.new (.tup vs) s1.env.sub np).step s1.env) ?_⟩
      exact .tup upd_same (dqAll_mono (same_upd (s1.env.sub.free np)) _ _ q)
    · cases e1
  · cases e1
/-- a list of data, new -/
def mkLst (rs : List Rv) : M Tr := fun ρ => match datas rs with
  | some ds => if small ds.length then some (.ok (.lst (ds.map .dat)) ρ) else none
  | none => none
def nLst (fs : M (List Rv)) : M Tr := bnd fs mkLst
/-- a new list object laid at p -/
theorem new_lst {K : Fg} {T : List Nat} {F H : Hp} {σ : Sg} {ρ : Rho} {fp : FP} {p : Addr} {vs : List V} {ds : List PyData} (E : EnvOk K F H σ ρ fp) (np : H p = none) (q : DqAll K F vs ds) :
    EStep K T F H σ ρ fp F (upd H p (.lst vs)) ρ fp ∧ NewOk K H fp F (upd H p (.lst vs)) fp (.ref p) (.lst (ds.map .dat)) [p] := by
  refine ⟨(Grow.lay (.lst vs) E.sub np).step E, .lst upd_same (E.sub.free np) (trs_dat q), by simp, fun b hb => ?_, fun b hb ho => ?_⟩
  · rw [List.mem_singleton.mp hb]; exact .inl np
  · rw [List.mem_singleton.mp hb] at ho
    exact (E.there ho).1 np
theorem vn_lst (h : VA X T W es fs) : VN X T W (.List es pos) (nLst fs) := pe_imp (pe_lst h) fun σ H Q ⟨F, ρ, fp, o, E, e, P⟩ => by
  refine tv_bnd E e P (fun i hi => hi) fun rs ρ1 vs H1 F1 fp1 s1 r1 e1 P1 => ?_
  unfold mkLst at e1
  split at e1
  · rename_i ds hd
    split at e1
    · rename_i hz
      cases ok_inj e1
      have q := datas_ok r1 hd
      refine ⟨by rw [dqAll_len q]; exact of_decide_eq_true hz, fun p np => ?_⟩
      have z := new_lst (T := T) s1.env np q
      exact P1 _ _ _ fp1 z.1 ⟨_, z.2⟩
    · cases e1
  · cases e1
/-! ### a new tree as data -/
def cFrz (f : M Tr) : M Rv := bnd f fun t => fun ρ => match t.toD with
  | some d => some (.ok (.d d) ρ)
  | none => none
theorem frz_step {K : Fg} {T : List Nat} {F H : Hp} {σ : Sg} {ρ : Rho} {fp : FP} {A : List Addr} (E : EnvOk K F H σ ρ fp) (hA : ∀ b ∈ A, H b ≠ none ∧ F b = none) (hn : ∀ b ∈ A, ∀ ps, H b ≠ some (.tbl ps)) (ho : ∀ b ∈ A, ¬ Owns fp b) :
    EnvOk K (frz F H A) H σ ρ fp := by
  refine ⟨frz_sub E.sub, E.len, fun i s h => ?_, E.nil, E.nd, E.ap, E.tb.frz (fun b hb => (hA b hb).2) hn, E.al⟩
  have q := E.sl i s h
  have s1 : Same F (frz F H A) := frz_same fun b hb => (hA b hb).2
  cases s with
  | no => trivial
  | al _ _ => trivial
  | val d => obtain ⟨u, e1, e2⟩ := q; exact ⟨u, e1, dq_mono s1 _ _ e2⟩
  | own m t =>
    obtain ⟨u, e1, e2⟩ := q
    refine ⟨u, e1, e2.move s1 fun b hb => ⟨rfl, ?_⟩⟩
    unfold frz
    rw [if_neg fun z => ho b z ⟨i, hb⟩]
    exact (e2.mem b hb).2
theorem tv_frz {K : Fg} {f : M Tr} {σ : Sg} {H : Hp} {Q : VK} (h : tV K T W (cFrz f) σ H Q) : tVN K T W f σ H Q := by
  obtain ⟨F, ρ, fp, o, E, e, P⟩ := h
  unfold cFrz bnd at e
  cases hf : f ρ with
  | none => rw [hf] at e; cases e
  | some r =>
    cases r with
    | ex c ρ1 => rw [hf] at e; cases e; exact ⟨F, ρ, fp, _, E, hf, fun H1 F1 fp1 st => P H1 F1 fp1 st⟩
    | ok t ρ1 =>
      rw [hf] at e
      refine ⟨F, ρ, fp, _, E, hf, fun v H1 F1 fp1 s1 ⟨A, n⟩ => ?_⟩
      simp only at e
      split at e
      · rename_i d hd
        cases ok_inj e
        have hA := n.ok.mem
        have E2 := frz_step (T := T) s1.env hA n.ok.ntb n.out
        refine P v H1 (frz F1 H1 A) fp1 ⟨⟨E2, s1.st.fr.trans (frz_same fun b hb => (hA b hb).2), fun b h h' => ?_, s1.st.dom, s1.st.frame, s1.st.own, s1.st.pin, s1.st.lock⟩, s1.ko, s1.un⟩ ?_
        · by_cases hb : b ∈ A
          · exact (n.new b hb).imp_right .inl
          · unfold frz at h'
            rw [if_neg hb] at h'
            exact s1.st.nf b h h'
        · refine n.ok.dp (frz_same fun b hb => (hA b hb).2) (fun b hb => ?_) hd
          unfold frz
          rw [if_pos hb]
      · cases e
theorem ve_frz {f : M Tr} (h : VN X T W e f) : VE X T W e (cFrz f) := pe_imp h fun σ H Q q => tv_frz q
/-- data as a tree -/
def nDat (f : M Rv) : M Tr := bnd f fun x => fun ρ => match x with
  | .d d => some (.ok (.dat d) ρ)
  | .o _ => none
theorem vn_dat (h : VE X T W e fa) : VN X T W e (nDat fa) := pe_imp h fun σ H Q ⟨F, ρ, fp, o, E, q, P⟩ => by
  refine tv_bnd E q P (fun i hi => hi) fun x ρ1 v H1 F1 fp1 s1 r1 e1 P1 => ?_
  cases x with
  | o i => cases e1
  | d d =>
    cases ok_inj e1
    exact P1 _ _ _ fp1 (.refl s1.env) ⟨[], .dat r1, List.nodup_nil, (fun b hb => nomatch hb), (fun b hb => nomatch hb)⟩
end
end VL

end

section
set_option Elab.async false
set_option linter.all false
set_option maxRecDepth 100000
set_option exponentiation.threshold 3000
namespace VL
open PySem PySem.Spec PyProof.Rows L2

section
variable {X : Cx} {T T1 T2 T3 : List Nat} {W : WV} {K : Fg}
theorem opr_or {f : Value → Value → Sem Value} {r r' : R2} (h : OpR X f r) (h' : OpR X f r') : OpR X f (fun x y H Q => r x y H Q ∨ r' x y H Q) :=
  fun pins s σ H x y v u Q I rx ry q => q.elim (h pins s σ H x y v u Q I rx ry) (h' pins s σ H x y v u Q I rx ry)
theorem callr_or {f : Value} {r r' : List V → Hp → VK → Prop} (h : CallR X f r) (h' : CallR X f r') : CallR X f (fun x H Q => r x H Q ∨ r' x H Q) :=
  fun pins s σ H x v Q I rx q => q.elim (h pins s σ H x v Q I rx) (h' pins s σ H x v Q I rx)
theorem lstR {pins : List (Addr × Obj)} {σ : Sg} {H : Hp} {s : Shared} {l : Addr} {xs : List V} (I : Inv X pins σ H s) (hH : Rd H l (.lst xs)) : xs.length ≤ sizeLine ∧ ∃ (its : List Value) (n : Nat), Vals xs its ∧ xs.length = its.length ∧ s.heap.get? l = some { cls := .type "list", data := .seq its.toArray n } := by
  obtain ⟨z, its, n, r, e⟩ := hH.ok I.hok
  exact ⟨z, its, n, r, r.length, e⟩
/-- list + list -/
def rCatR : R2 := fun x y H Q => ∃ l b xs zs, x = .ref l ∧ y = .ref b ∧ Rd H l (.lst xs) ∧ Rd H b (.lst zs) ∧ xs.length + zs.length ≤ sizeLine ∧ ∀ p, H p = none → Q (.ref p) (upd H p (.lst (xs ++ zs)))
theorem op_catR : OpR X (binaryOp .Add) rCatR := by
  intro pins s σ H x y v u Q I rx ry h
  obtain ⟨l, b, xs, zs, rfl, rfl, hH, hB, hz, q⟩ := h
  cases rx
  cases ry
  obtain ⟨z, its, n, r, hl, e⟩ := lstR I hH
  obtain ⟨z2, its2, n2, r2, hl2, e2⟩ := lstR I hB
  refine PySem.P.add_list e e2 ?_ (by rw [List.size_toArray, List.size_toArray]; omega)
  have ea : its.toArray ++ its2.toArray = (its ++ its2).toArray := by simp
  rw [ea]
  exact ⟨.ref _, _, I.lnew (t' := s.toks) (r.append r2) (by rw [List.length_append]; omega), rfl, q _ I.fresh⟩
/-- list * int, the list tracked -/
theorem rep_all {F : Hp} {vs : List V} {ds : List PyData} (h : DqAll K F vs ds) : ∀ n : Nat, DqAll K F (List.replicate n vs).flatten (List.replicate n ds).flatten
  | 0 => .nil
  | n + 1 => by
    rw [List.replicate_succ, List.replicate_succ, List.flatten_cons, List.flatten_cons]
    exact dqAll_app h (rep_all h n)

/-! ### + - * // % ** -/
def addD : PyData → PyData → Option PyData
  | .int i, .int j => some (.int (i + j))
  | .tuple xs, .tuple ys => if small (xs.length + ys.length) then some (.tuple (xs ++ ys)) else none
  | .list xs, .list ys => if small (xs.length + ys.length) then some (.list (xs ++ ys)) else none
  | .str x, .str y => if small (x.length + y.length) then some (.str (x ++ y)) else none
  | _, _ => none
def rAddD (K : Fg) : R2 := fun x y H Q => ((rI0 fun i j => .int (i + j)) x y H Q ∨ rCatA K x y H Q) ∨ rCatR x y H Q ∨ (∃ i j, x = .str i ∧ y = .str j ∧ i.length + j.length ≤ sizeLine ∧ Q (.str (i ++ j)) H)
theorem op_addD : OpR X (binaryOp .Add) (rAddD X.K) := opr_or (opr_or op_add op_catA) (opr_or op_catR op_add_str)
theorem small_iff {n : Nat} : small n = true ↔ n ≤ sizeLine := by unfold small; exact decide_eq_true_iff
theorem ok_addD : OpOk K (rAddD K) addD := by
  intro F H x y dx dy z Q s hx hy e k
  unfold addD at e
  split at e
  · cases e
    cases hx.int; cases hy.int
    exact .inl (.inl ⟨_, _, rfl, rfl, k _ F H (.refl s) (.int _)⟩)
  · rename_i xs ys
    split at e
    · rename_i hz
      cases e
      obtain ⟨a, vs, rfl, h1, h2, h3⟩ := hx.tup s
      obtain ⟨b, ws, rfl, h4, h5, h6⟩ := hy.tup s
      refine .inl (.inr ⟨a, b, vs, ws, rfl, rfl, h1, h4, by rw [dqAll_len h2, dqAll_len h5]; exact small_iff.mp hz, fun e0 => ?_, fun _ e0 => ?_, fun _ _ p np => ?_⟩)
      · subst e0
        cases h2
        exact k _ F H (.refl s) h6
      · subst e0
        cases h5
        rw [List.append_nil] at k
        exact k _ F H (.refl s) h3
      · exact k _ _ _ (.new _ s np) (.tup upd_same (dqAll_mono (same_upd (s.free np)) _ _ (dqAll_app h2 h5)))
    · cases e
  · rename_i xs ys
    split at e
    · rename_i hz
      cases e
      obtain ⟨a, vs, rfl, h1, h2⟩ := hx.list s
      obtain ⟨b, ws, rfl, h4, h5⟩ := hy.list s
      refine .inr (.inl ⟨a, b, vs, ws, rfl, rfl, h1, h4, by rw [dqAll_len h2, dqAll_len h5]; exact small_iff.mp hz, fun p np => ?_⟩)
      exact k _ _ _ (.new _ s np) (.lst (.inl upd_same) (dqAll_mono (same_upd (s.free np)) _ _ (dqAll_app h2 h5)))
    · cases e
  · split at e
    · rename_i hz
      cases e
      cases hx.str; cases hy.str
      exact .inr (.inr ⟨_, _, rfl, rfl, small_iff.mp hz, k _ F H (.refl s) (.str _)⟩)
    · cases e
  · cases e
def subtD : PyData → PyData → Option PyData
  | .int i, .int j => some (.int (i - j))
  | _, _ => none
theorem ok_subtD : OpOk K (rI0 fun i j => .int (i - j)) subtD := by
  intro F H x y dx dy z Q s hx hy e k
  unfold subtD at e
  split at e
  · cases e
    cases hx.int; cases hy.int
    exact ⟨_, _, rfl, rfl, k _ F H (.refl s) (.int _)⟩
  · cases e
/-- a bound for factors -/
def lim : Nat := 2 ^ 2000
def mulD : PyData → PyData → Option PyData
  | .int i, .int j => if i.natAbs < lim ∧ j.natAbs < lim then some (.int (i * j)) else none
  | _, _ => none
theorem ok_mulD : OpOk K (rI CMulW fun i j => .int (i * j)) mulD := by
  intro F H x y dx dy z Q s hx hy e k
  unfold mulD at e
  split at e
  · split at e
    · rename_i h
      cases e
      cases hx.int; cases hy.int
      refine ⟨_, _, rfl, rfl, ?_, k _ F H (.refl s) (.int _)⟩
      exact wide_mul (a := 2000) (b := 2000) h.1 h.2 (by decide) (by decide) (by decide)
    · cases e
  · cases e
def modD : PyData → PyData → Option PyData
  | .int i, .int j => if 0 < j then some (.int (i % j)) else none
  | _, _ => none
theorem ok_modD : OpOk K (rI (fun _ j => 0 < j) fun i j => .int (i % j)) modD := by
  intro F H x y dx dy z Q s hx hy e k
  unfold modD at e
  split at e
  · split at e
    · rename_i h
      cases e
      cases hx.int; cases hy.int
      exact ⟨_, _, rfl, rfl, h, k _ F H (.refl s) (.int _)⟩
    · cases e
  · cases e
def fdivD : PyData → PyData → Option PyData
  | .int i, .int j => if 0 < j ∧ j.natAbs < lim then some (.int (i / j)) else none
  | _, _ => none
theorem ok_fdivD : OpOk K (rI CDivW fun i j => .int (i / j)) fdivD := by
  intro F H x y dx dy z Q s hx hy e k
  unfold fdivD at e
  split at e
  · split at e
    · rename_i h
      cases e
      cases hx.int; cases hy.int
      exact ⟨_, _, rfl, rfl, wide_div (b := 2000) h.1 h.2 (by decide) (by decide), k _ F H (.refl s) (.int _)⟩
    · cases e
  · cases e
def powD : PyData → PyData → Option PyData
  | .int i, .int j => if 0 ≤ j ∧ j ≤ 1000 ∧ i.natAbs < 1000000 then some (.int (i ^ j.toNat)) else none
  | _, _ => none
theorem ok_powD : OpOk K (rI CPow fun i j => .int (i ^ j.toNat)) powD := by
  intro F H x y dx dy z Q s hx hy e k
  unfold powD at e
  split at e
  · split at e
    · rename_i h
      cases e
      cases hx.int; cases hy.int
      exact ⟨_, _, rfl, rfl, ⟨h.1, by omega, Nat.lt_trans h.2.2 (by decide)⟩, k _ F H (.refl s) (.int _)⟩
    · cases e
  · cases e
variable {fa fb fc : M Rv} {a b c : Expr} {pos : Pos}
theorem ve_add (ha : VE X T1 W a fa) (hb : VE X T2 W b fb) : VE X (T1 ++ T2) W (.BinOp a .Add b pos) (cBin addD fa fb) := ve_bin op_addD ok_addD ha hb
theorem ve_sub (ha : VE X T1 W a fa) (hb : VE X T2 W b fb) : VE X (T1 ++ T2) W (.BinOp a .Sub b pos) (cBin subtD fa fb) := ve_bin op_sub ok_subtD ha hb
theorem ve_mul (ha : VE X T1 W a fa) (hb : VE X T2 W b fb) : VE X (T1 ++ T2) W (.BinOp a .Mult b pos) (cBin mulD fa fb) := ve_bin op_mulW ok_mulD ha hb
theorem ve_mod (ha : VE X T1 W a fa) (hb : VE X T2 W b fb) : VE X (T1 ++ T2) W (.BinOp a .Mod b pos) (cBin modD fa fb) := ve_bin op_mod ok_modD ha hb
theorem ve_fdiv (ha : VE X T1 W a fa) (hb : VE X T2 W b fb) : VE X (T1 ++ T2) W (.BinOp a .FloorDiv b pos) (cBin fdivD fa fb) := ve_bin op_fdivW ok_fdivD ha hb
theorem ve_pow (ha : VE X T1 W a fa) (hb : VE X T2 W b fb) : VE X (T1 ++ T2) W (.BinOp a .Pow b pos) (cBin powD fa fb) := ve_bin op_pow ok_powD ha hb
/-- -a -/
def cNeg (f : M Rv) : M Rv := bnd f fun x => fun ρ => match x with
  | .d (.int i) => some (.ok (.d (.int (-i))) ρ)
  | _ => none
theorem ve_neg (ha : VE X T W a fa) : VE X T W (.UnaryOp .USub a pos) (cNeg fa) := pe_imp (pe_un un_neg ha) fun σ H Q ⟨F, ρ, fp, o, E, e, P⟩ => by
  refine tv_bnd E e P (fun i hi => hi) fun x ρ1 v H1 F1 fp1 s1 r1 e1 P1 => ?_
  split at e1
  · cases ok_inj e1
    cases r1
    exact ⟨_, rfl, P1 _ H1 F1 fp1 (.refl s1.env) (.int _)⟩
  · cases e1

/-! ### comparisons -/
def icmp (p : Int → Int → Bool) : PyData → PyData → Option Bool
  | .int i, .int j => some (p i j)
  | _, _ => none
theorem ok_icmp {p : Int → Int → Bool} : OpOkD K (rI0 fun i j => .bl (p i j)) (icmp p) := by
  intro H x y dx dy z Q hx hy e k
  unfold icmp at e
  split at e
  · cases e
    cases hx; cases hy
    exact ⟨_, _, rfl, rfl, k⟩
  · cases e
abbrev ltD := icmp fun i j => decide (i < j)
abbrev leD := icmp fun i j => decide (i ≤ j)
abbrev gtD := icmp fun i j => decide (j < i)
abbrev geD := icmp fun i j => decide (j ≤ i)
def eqD (d e : PyData) : Option Bool := if SeqAt.shaped d && SeqAt.shaped e then some (PyData.eqv d e) else none
def neD (d e : PyData) : Option Bool := if SeqAt.shaped d && SeqAt.shaped e then some (!PyData.eqv d e) else none
theorem ok_eqD : OpOkD K (rEqD K) eqD := by
  intro H x y dx dy z Q hx hy e k
  unfold eqD at e
  split at e
  · rename_i h
    cases e
    rw [Bool.and_eq_true] at h
    exact ⟨dx, dy, dq_dp _ _ (SeqAt.canLay_of_shaped h.1) hx, dq_dp _ _ (SeqAt.canLay_of_shaped h.2) hy, h.1, h.2, k⟩
  · cases e
theorem ok_neD : OpOkD K (rNeD K) neD := by
  intro H x y dx dy z Q hx hy e k
  unfold neD at e
  split at e
  · rename_i h
    cases e
    rw [Bool.and_eq_true] at h
    exact ⟨dx, dy, dq_dp _ _ (SeqAt.canLay_of_shaped h.1) hx, dq_dp _ _ (SeqAt.canLay_of_shaped h.2) hy, h.1, h.2, k⟩
  · cases e
def flatD : PyData → Bool
  | .none => true
  | .bool _ => true
  | .int _ => true
  | .str _ => true
  | _ => false
theorem flatD_ok {H : Hp} {v : V} {d : PyData} (h : Dq K H v d) (f : flatD d = true) : flatV v = true := by
  cases h <;> first | rfl | (exact absurd (show false = true from f) Bool.false_ne_true)
theorem eqV_ok {H : Hp} {v w : V} {d e : PyData} (h : Dq K H v d) (h' : Dq K H w e) (f : flatD d = true) (f' : flatD e = true) : eqV v w = PyData.eqv d e := by
  cases h <;> cases h' <;> first | (exact absurd (show false = true from f) Bool.false_ne_true) | (exact absurd (show false = true from f') Bool.false_ne_true) | rfl | simp [eqV, PyData.eqv]
theorem flat_all {H : Hp} : ∀ {vs : List V} {ds : List PyData}, DqAll K H vs ds → ds.all flatD = true → vs.all flatV = true
  | _, _, .nil, _ => rfl
  | _, _, .cons h t, f => by
    rw [List.all_cons, Bool.and_eq_true] at f ⊢
    exact ⟨flatD_ok h f.1, flat_all t f.2⟩
theorem inV_ok {H : Hp} {v : V} {d : PyData} (h : Dq K H v d) (f : flatD d = true) : ∀ {vs : List V} {ds : List PyData}, DqAll K H vs ds → ds.all flatD = true → inV v vs = ds.any fun z => PyData.eqv z d
  | _, _, .nil, _ => rfl
  | _, _, .cons h1 t, f1 => by
    rw [List.all_cons, Bool.and_eq_true] at f1
    have := inV_ok h f t f1.2
    unfold inV at this ⊢
    rw [List.any_cons, List.any_cons, this, eqV_ok h1 h f1.1 f]
def inD (d c : PyData) : Option Bool := match c with
  | .list ds => if SeqAt.shaped d && SeqAt.shaped (.list ds) then some (ds.any fun z => PyData.eqv z d) else none
  | .tuple ds => if flatD d && ds.all flatD then some (ds.any fun z => PyData.eqv z d) else none
  | .str y => (match d with
    | .str x => some (!(Builtin.Str.occurrences y x 0 y.length 1).isEmpty)
    | _ => none)
  | _ => none
def notInD (d c : PyData) : Option Bool := (inD d c).map (!·)
def rInA (K : Fg) : R2 := fun x y H Q => (rInD K x y H Q ∨ rIn K false x y H Q) ∨ (∃ i j, x = .str i ∧ y = .str j ∧ Q (.bl (!(Builtin.Str.occurrences j i 0 j.length 1).isEmpty)) H)
def rNotInA (K : Fg) : R2 := fun x y H Q => (rNotInD K x y H Q ∨ rIn K true x y H Q) ∨ (∃ i j, x = .str i ∧ y = .str j ∧ Q (.bl (!(!(Builtin.Str.occurrences j i 0 j.length 1).isEmpty))) H)
theorem op_inA (hu : X.A.units + 65 < cLine) : OpR X (compareOp .In) (rInA X.K) := opr_or (opr_or (op_inD hu) op_in_seq) op_in_str
theorem op_notInA (hu : X.A.units + 65 < cLine) : OpR X (compareOp .NotIn) (rNotInA X.K) := opr_or (opr_or (op_notInD hu) op_notIn_seq) op_notin_str
theorem ok_inD : OpOkD K (rInA K) inD := by
  intro H x y dx dy z Q hx hy e k
  unfold inD at e
  split at e
  · split at e
    · rename_i h
      cases e
      rw [Bool.and_eq_true] at h
      exact .inl (.inl ⟨dx, _, dq_dp _ _ (SeqAt.canLay_of_shaped h.1) hx, dq_dp _ _ (SeqAt.canLay_of_shaped h.2) hy, h.1, h.2, k⟩)
    · cases e
  · split at e
    · rename_i h
      cases e
      rw [Bool.and_eq_true] at h
      cases hy with
      | tups hs ha =>
        refine .inl (.inr ⟨_, _, rfl, .inr hs.sq, flatD_ok hx h.1, flat_all ha h.2, ?_⟩)
        simp only [Bool.false_eq_true, if_false]
        rw [inV_ok hx h.1 ha h.2]
        exact k
    · cases e
  · split at e
    · cases e
      cases hx; cases hy
      exact .inr ⟨_, _, rfl, rfl, k⟩
    · cases e
  · cases e
theorem ok_notInD : OpOkD K (rNotInA K) notInD := by
  intro H x y dx dy z Q hx hy e k
  unfold notInD at e
  cases q : inD dx dy with
  | none => rw [q] at e; cases e
  | some b =>
    rw [q] at e
    cases e
    unfold inD at q
    split at q
    · split at q
      · rename_i h
        cases q
        rw [Bool.and_eq_true] at h
        exact .inl (.inl ⟨dx, _, dq_dp _ _ (SeqAt.canLay_of_shaped h.1) hx, dq_dp _ _ (SeqAt.canLay_of_shaped h.2) hy, h.1, h.2, k⟩)
      · cases q
    · split at q
      · rename_i h
        cases q
        rw [Bool.and_eq_true] at h
        cases hy with
        | tups hs ha =>
          refine .inl (.inr ⟨_, _, rfl, .inr hs.sq, flatD_ok hx h.1, flat_all ha h.2, ?_⟩)
          simp only [if_true]
          rw [inV_ok hx h.1 ha h.2]
          exact k
      · cases q
    · split at q
      · cases q
        cases hx; cases hy
        exact .inr ⟨_, _, rfl, rfl, k⟩
      · cases q
    · cases q
/-- is None, is not None -/
def isNon : PyData → Bool
  | .none => true
  | _ => false
def isND (d e : PyData) : Option Bool := match e with
  | .none => some (isNon d)
  | _ => none
def notND (d e : PyData) : Option Bool := (isND d e).map (!·)
theorem non_ok {H : Hp} {v : V} {d : PyData} (h : Dq K H v d) : decide (v = .non) = isNon d := by
  cases h <;> simp [isNon]
theorem ok_isND : OpOkD K (fun x y H Q => y = .non ∧ Q (.bl (decide (x = .non))) H) isND := by
  intro H x y dx dy z Q hx hy e k
  unfold isND at e
  split at e
  · cases e
    cases hy
    refine ⟨rfl, ?_⟩
    rw [non_ok hx]
    exact k
  · cases e
theorem ok_notND : OpOkD K (fun x y H Q => y = .non ∧ Q (.bl (!decide (x = .non))) H) notND := by
  intro H x y dx dy z Q hx hy e k
  unfold notND isND at e
  split at e
  · cases e
    cases hy
    refine ⟨rfl, ?_⟩
    rw [non_ok hx]
    exact k
  · cases e

/-! ### e in NAME, e not in NAME: a module's tuple of flat items -/
theorem inV_pair {K : Fg} {H : Hp} {v : V} {d : PyData} (h : Dq K H v d) (f : flatD d = true) {vs : List V} {ds : List PyData} (ha : DqAll K H vs ds) (f1 : ds.all flatD = true) : inV v vs = ds.any fun z => PyData.eqv z d := inV_ok h f ha f1
section
variable {a : Expr} {fa : M Rv} {pos p : Pos} {x : Str} {t : Addr} {ds : List PyData}
/-- what a module's constant is -/
def KTup (K : Fg) (t : Addr) (ds : List PyData) : Prop := ∃ vs, (∀ F : Hp, SqT K F t vs) ∧ ∀ F : Hp, DqAll K F vs ds
theorem tv_inK {σ : Sg} {H : Hp} {Q : Bool → Hp → Prop} {Q' : VK} (hQ : ∀ b H, Q b H → Q' (.bl b) H) (hk : KTup X.K t ds) (h : tVT X.K T W (cCmp inD fa (cD (.tuple ds))) σ H Q) : tOp (rIn X.K false) (tV X.K T W fa) (tC (.ref t)) σ H Q' := by
  obtain ⟨F, ρ, fp, o, E, e, P⟩ := h
  obtain ⟨vs, k1, k2⟩ := hk
  refine tv_bnd E e P (fun i hi => hi) fun x ρ1 v H1 F1 fp1 s1 r1 e1 P1 => ?_
  have e2 : binD inD x (.d (.tuple ds)) ρ1 = some o := e1
  unfold binD at e2
  split at e2
  · rename_i p q hp hq
    cases hq
    split at e2
    · rename_i z hz
      cases ok_inj e2
      have hx := der_ok s1.env r1 hp
      simp only [inD] at hz
      split at hz
      · rename_i hf
        rw [Bool.and_eq_true] at hf
        cases hz
        refine ⟨t, vs, rfl, .inr (k1 H1), flatD_ok hx hf.1, flat_all (k2 H1) hf.2, hQ _ _ ?_⟩
        simp only [Bool.false_eq_true, if_false]
        rw [inV_ok hx hf.1 (k2 H1) hf.2]
        exact P1 _ H1 F1 fp1 (.refl s1.env) rfl
      · cases hz
    · cases e2
  · cases e2
theorem tv_notInK {σ : Sg} {H : Hp} {Q : Bool → Hp → Prop} {Q' : VK} (hQ : ∀ b H, Q b H → Q' (.bl b) H) (hk : KTup X.K t ds) (h : tVT X.K T W (cCmp notInD fa (cD (.tuple ds))) σ H Q) : tOp (rIn X.K true) (tV X.K T W fa) (tC (.ref t)) σ H Q' := by
  obtain ⟨F, ρ, fp, o, E, e, P⟩ := h
  obtain ⟨vs, k1, k2⟩ := hk
  refine tv_bnd E e P (fun i hi => hi) fun x ρ1 v H1 F1 fp1 s1 r1 e1 P1 => ?_
  have e2 : binD notInD x (.d (.tuple ds)) ρ1 = some o := e1
  unfold binD at e2
  split at e2
  · rename_i p q hp hq
    cases hq
    split at e2
    · rename_i z hz
      cases ok_inj e2
      have hx := der_ok s1.env r1 hp
      simp only [notInD, inD] at hz
      split at hz
      · rename_i hf
        rw [Bool.and_eq_true] at hf
        cases hz
        refine ⟨t, vs, rfl, .inr (k1 H1), flatD_ok hx hf.1, flat_all (k2 H1) hf.2, hQ _ _ ?_⟩
        simp only [if_true]
        rw [inV_ok hx hf.1 (k2 H1) hf.2]
        exact P1 _ H1 F1 fp1 (.refl s1.env) rfl
      · cases hz
    · cases e2
  · cases e2
theorem vt_inK (ha : VE X T W a fa) (hg : Gl X x) (hm : X.mg x = some (.ref t)) (hk : KTup X.K t ds) (hb : behindInMarks .In (.Name x p) = false := by rfl) (hdb : (x == ("__debug__" : Str)) = false := by decide) :
    VT X T W (.Compare a [.In] [.Name x p] pos) (cCmp inD fa (cD (.tuple ds))) := pt_imp (pt_cmpR op_in_seq ha (pe_glob (v := .ref t) hg hm rfl hdb) hb) fun σ H Q h => tv_inK (Q' := fun v H => ∃ b, v = .bl b ∧ Q b H) (fun b _ q => ⟨b, rfl, q⟩) hk h
theorem vt_notInK (ha : VE X T W a fa) (hg : Gl X x) (hm : X.mg x = some (.ref t)) (hk : KTup X.K t ds) (hb : behindInMarks .NotIn (.Name x p) = false := by rfl) (hdb : (x == ("__debug__" : Str)) = false := by decide) :
    VT X T W (.Compare a [.NotIn] [.Name x p] pos) (cCmp notInD fa (cD (.tuple ds))) := pt_imp (pt_cmpR op_notIn_seq ha (pe_glob (v := .ref t) hg hm rfl hdb) hb) fun σ H Q h => tv_notInK (Q' := fun v H => ∃ b, v = .bl b ∧ Q b H) (fun b _ q => ⟨b, rfl, q⟩) hk h
theorem ve_inK (ha : VE X T W a fa) (hg : Gl X x) (hm : X.mg x = some (.ref t)) (hk : KTup X.K t ds) (hb : behindInMarks .In (.Name x p) = false := by rfl) (hdb : (x == ("__debug__" : Str)) = false := by decide) :
    VE X T W (.Compare a [.In] [.Name x p] pos) (cOf (cCmp inD fa (cD (.tuple ds)))) := pe_imp (pe_cmpR op_in_seq ha (pe_glob (v := .ref t) hg hm rfl hdb) hb) fun σ H Q h => tv_inK (fun b _ q => q) hk (of_cOf h)
theorem ve_notInK (ha : VE X T W a fa) (hg : Gl X x) (hm : X.mg x = some (.ref t)) (hk : KTup X.K t ds) (hb : behindInMarks .NotIn (.Name x p) = false := by rfl) (hdb : (x == ("__debug__" : Str)) = false := by decide) :
    VE X T W (.Compare a [.NotIn] [.Name x p] pos) (cOf (cCmp notInD fa (cD (.tuple ds)))) := pe_imp (pe_cmpR op_notIn_seq ha (pe_glob (v := .ref t) hg hm rfl hdb) hb) fun σ H Q h => tv_notInK (fun b _ q => q) hk (of_cOf h)
end

/-! ### items and slices -/
def subD : PyData → PyData → Option PyData
  | .list xs, .int i => atI xs i
  | .tuple xs, .int i => atI xs i
  | .str z, .int i => if small z.length then (atI z.cps.toList i).map fun c => .str ⟨#[c]⟩ else none
  | .dict kvs, .int i => (atI kvs i).map (·.1)
  | _, _ => none
theorem atI_map {α β : Type} {f : α → β} {xs : List α} {i : Int} : atI (xs.map f) i = (atI xs i).map f := by
  unfold atI
  rw [List.length_map]
  cases ixN xs.length i with
  | none => rfl
  | some j => simp
theorem atI_ok {F : Hp} {vs : List V} {ds : List PyData} {i : Int} {d : PyData} (h : DqAll K F vs ds) (e : atI ds i = some d) : ∃ v, atI vs i = some v ∧ Dq K F v d := by
  unfold atI at e ⊢
  rw [dqAll_len h]
  cases q : ixN ds.length i with
  | none => rw [q] at e; cases e
  | some j =>
    rw [q] at e
    exact dqAll_get h e
theorem ok_subD : OpOk K (rIx K) subD := by
  intro F H x y dx dy z Q s hx hy e k
  unfold subD at e
  split at e
  · obtain ⟨a, vs, rfl, h1, h2⟩ := hx.list s
    cases hy.int
    obtain ⟨v, e1, e2⟩ := atI_ok h2 e
    exact .inl ⟨a, vs, _, v, rfl, rfl, .inl h1, e1, k _ F H (.refl s) e2⟩
  · obtain ⟨a, vs, rfl, h1, h2, _⟩ := hx.tup s
    cases hy.int
    obtain ⟨v, e1, e2⟩ := atI_ok h2 e
    exact .inr (.inl ⟨a, vs, _, v, rfl, rfl, h1, e1, k _ F H (.refl s) e2⟩)
  · split at e
    · rename_i z' i hz
      cases hx.str; cases hy.int
      cases q : atI z'.cps.toList i with
      | none => rw [q] at e; cases e
      | some c =>
        rw [q] at e; cases e
        exact .inr (.inr ⟨_, _, c, rfl, rfl, small_iff.mp hz, q, k _ F H (.refl s) (.str _)⟩)
    · cases e
  · rename_i kvs i
    rcases hx with hx | ⟨_, _, _, _, z', _⟩
    · cases hx with
      | @scr a ns hs =>
        cases hy.int
        rw [atI_map] at e
        cases q : atI ns i with
        | none => rw [q] at e; cases e
        | some n =>
          rw [q] at e; cases e
          exact .inl ⟨a, _, i, .int n, rfl, rfl, s.seq hs, by rw [atI_map, q]; rfl, k _ F H (.refl s) (.int _)⟩
    · cases z'
  · cases e
theorem ve_ix (ha : VE X T1 W a fa) (hb : VE X T2 W b fb) (hs : PlainIx b := by intro _ _; rfl) : VE X (T1 ++ T2) W (.Subscript a b pos) (cBin subD fa fb) :=
  pe_imp (pe_ix ix_seq ha hb hs) fun σ H Q h => tv_bin ok_subD h
def cutL {α : Type} (xs : List α) (lo hi : Option Int) : List α := (xs.drop (HT.sIx xs.length 0 lo)).take (HT.sIx xs.length xs.length hi - HT.sIx xs.length 0 lo)
theorem cut_ok {F : Hp} {vs : List V} {ds : List PyData} (h : DqAll K F vs ds) (lo hi : Option Int) : DqAll K F (cutV vs lo hi) (cutL ds lo hi) := by
  unfold cutV cutL
  rw [dqAll_len h]
  exact dqAll_take _ (dqAll_drop _ h)
def cutD (d : PyData) (lo hi : Option Int) : Option PyData := match d with
  | .list xs => some (.list (cutL xs lo hi))
  | .tuple xs => some (.tuple (cutL xs lo hi))
  | .str z => if small z.length then some (.str (cutS z lo hi)) else none
  | _ => none
def rSlD (K : Fg) : V → Option Int → Option Int → Hp → VK → Prop := fun x lo hi H Q => (rSlL K x lo hi H Q ∨ rSlA K x lo hi H Q) ∨ rSlS x lo hi H Q
theorem sl_D : SlR X (rSlD X.K) := SlR.or (SlR.or sl_list sl_tupA) sl_str
theorem ok_cutD {F H : Hp} {x : V} {dx z : PyData} {lo hi : Option Int} {Q : VK} (s : Same F H) (hx : DpS K F H x dx) (e : cutD dx lo hi = some z) (k : ∀ v F' H', Grow F H F' H' → Dq K F' v z → Q v H') : rSlD K x lo hi H Q := by
  unfold cutD at e
  split at e
  · cases e
    obtain ⟨a, vs, rfl, h1, h2⟩ := hx.list s
    refine .inl (.inl ⟨a, vs, rfl, .inl h1, fun p np => ?_⟩)
    exact k _ _ _ (.new _ s np) (.lst (.inl upd_same) (dqAll_mono (same_upd (s.free np)) _ _ (cut_ok h2 lo hi)))
  · cases e
    obtain ⟨a, vs, rfl, h1, h2, h3⟩ := hx.tup s
    refine .inl (.inr ⟨a, vs, rfl, h1, fun w => ?_, fun _ p np => ?_⟩)
    · rename_i xs
      have : cutL xs lo hi = xs := by
        unfold cutL
        rw [dqAll_len h2] at w
        rw [w.1, w.2]
        simp
      rw [this] at k
      exact k _ F H (.refl s) h3
    · exact k _ _ _ (.new _ s np) (.tup upd_same (dqAll_mono (same_upd (s.free np)) _ _ (cut_ok h2 lo hi)))
  · split at e
    · rename_i hz
      cases e
      cases hx.str
      exact .inr ⟨_, rfl, small_iff.mp hz, k _ F H (.refl s) (.str _)⟩
    · cases e
  · cases e
/-- a slice's part -/
def rlO (K : Fg) : Rl K (Option Int) (Option Int) := ⟨fun _ _ _ _ _ _ _ v r => v = r, fun _ h => h⟩
def VO (X : Cx) (T : List Nat) (W : WV) (e : Option Expr) (f : M (Option Int)) : Prop := PO X e (fun σ H Q => TVg T W (rlO X.K) f σ H Q)
theorem po_imp {e : Option Expr} {t t' : TO} (h : PO X e t) (i : ∀ σ H Q, t' σ H Q → t σ H Q) : PO X e t' := ⟨fun pins s σ H Q I q => h.run pins s σ H Q I (i σ H Q q)⟩
def oNone : M (Option Int) := ret none
def oSome (f : M Rv) : M (Option Int) := bnd f fun x => fun ρ => match x with
  | .d (.int i) => some (.ok (some i) ρ)
  | _ => none
theorem vo_none : VO X [] W none oNone := po_imp po_none fun σ H Q ⟨F, ρ, fp, o, E, e, P⟩ => by
  cases ok_inj e
  exact P _ H F fp (.refl E) rfl
theorem vo_some (ha : VE X T W a fa) : VO X T W (some a) (oSome fa) := po_imp (po_some ha) fun σ H Q ⟨F, ρ, fp, o, E, e, P⟩ => by
  refine tv_bnd E e P (fun i hi => hi) fun x ρ1 v H1 F1 fp1 s1 r1 e1 P1 => ?_
  split at e1
  · cases ok_inj e1
    cases r1
    exact ⟨_, rfl, P1 _ H1 F1 fp1 (.refl s1.env) rfl⟩
  · cases e1
def cut1 (x : Rv) (lo hi : Option Int) : M Rv := fun ρ => match derS ρ x with
  | some d => (match cutD d lo hi with
    | some z => some (.ok (.d z) ρ)
    | none => none)
  | none => none
def cCut (f : M Rv) (fl fh : M (Option Int)) : M Rv := bnd f fun x => bnd fl fun lo => bnd fh fun hi => cut1 x lo hi
variable {fl fh : M (Option Int)} {lo hi : Option Expr} {p2 : Pos}
theorem ve_cut (ha : VE X T1 W a fa) (hl : VO X T2 W lo fl) (hh : VO X T3 W hi fh) : VE X (T1 ++ T2 ++ T3) W (.Subscript a (.Slice lo hi none p2) pos) (cCut fa fl fh) :=
  pe_imp (pe_slice sl_D ha hl hh) fun σ H Q ⟨F, ρ, fp, o, E, e, P⟩ => by
    refine tv_bnd E e P (fun i hi => List.mem_append_left _ (List.mem_append_left _ hi)) fun x ρ1 v H1 F1 fp1 s1 r1 e1 P1 => ?_
    refine tv_bnd s1.env e1 P1 (fun i hi => List.mem_append_left _ (List.mem_append_right _ hi)) fun l ρ2 l' H2 F2 fp2 s2 r2 e2 P2 => ?_
    refine tv_bnd s2.env e2 P2 (fun i hi => List.mem_append_right _ hi) fun u ρ3 u' H3 F3 fp3 s3 r3 e3 P3 => ?_
    have r2 : l' = l := r2
    have r3 : u' = u := r3
    subst r2 r3
    unfold cut1 at e3
    split at e3
    · rename_i d hd
      split at e3
      · rename_i z hz
        cases ok_inj e3
        exact ok_cutD s3.env.sub (derS_ok s3.env (RvOk.step s3 (RvOk.step s2 r1)) hd) hz fun v' F4 H4 gr dp => P3 v' H4 F4 fp3 (gr.step s3.env) dp
      · cases e3
    · cases e3

/-! ### calls of built-ins -/
inductive DpSs (K : Fg) (F H : Hp) : List V → List PyData → Prop
  | nil : DpSs K F H [] []
  | cons {v vs d ds} : DpS K F H v d → DpSs K F H vs ds → DpSs K F H (v :: vs) (d :: ds)
def derSs (ρ : Rho) : List Rv → Option (List PyData)
  | [] => some []
  | r :: rs => match derS ρ r, derSs ρ rs with
    | some d, some ds => some (d :: ds)
    | _, _ => none
theorem derSs_ok {F H : Hp} {σ : Sg} {ρ : Rho} {fp : FP} (E : EnvOk K F H σ ρ fp) : ∀ {vs : List V} {rs : List Rv} {ds : List PyData}, RvsOk K F σ ρ vs rs → derSs ρ rs = some ds → DpSs K F H vs ds
  | _, _, _, .nil, e => by simp only [derSs] at e; cases e; exact .nil
  | _, r :: rs, _, .cons h t, e => by
    simp only [derSs] at e
    split at e
    · rename_i d ds hd hds
      cases e
      exact .cons (derS_ok E h hd) (derSs_ok E t hds)
    · cases e
def CallOk (K : Fg) (r : List V → Hp → VK → Prop) (g : List PyData → Option PyData) : Prop := ∀ F H vs ds z Q, Same F H → DpSs K F H vs ds → g ds = some z → (∀ v F' H', Grow F H F' H' → Dq K F' v z → Q v H') → r vs H Q
def call1 (g : List PyData → Option PyData) (rs : List Rv) : M Rv := fun ρ => match derSs ρ rs with
  | some ds => (match g ds with
    | some z => some (.ok (.d z) ρ)
    | none => none)
  | none => none
def cCall (g : List PyData → Option PyData) (fs : M (List Rv)) : M Rv := bnd fs (call1 g)
variable {g : List PyData → Option PyData} {fs : M (List Rv)} {rc : List V → Hp → VK → Prop} {es : List Expr} {e : Expr} {id Ty : String} {x : Str} {p : Pos}
theorem tv_call {σ : Sg} {H : Hp} {Q : VK} (hg : CallOk X.K rc g) (h : tV X.K T W (cCall g fs) σ H Q) : tCB rc (tVA X.K T W fs) σ H Q := by
  obtain ⟨F, ρ, fp, o, E, e, P⟩ := h
  refine tv_bnd E e P (fun i hi => hi) fun rs ρ1 vs H1 F1 fp1 s1 r1 e1 P1 => ?_
  unfold call1 at e1
  split at e1
  · rename_i ds hd
    split at e1
    · rename_i z hz
      cases ok_inj e1
      exact hg F1 H1 vs ds z Q s1.env.sub (derSs_ok s1.env r1 hd) hz fun v' F4 H4 gr dp => P1 v' H4 F4 fp1 (gr.step s1.env) dp
    · cases e1
  · cases e1
theorem ve_callB (hc : CallR X (.builtin id) rc) (hk : CallOk X.K rc g) (hg : Gl X x) (hm : X.mg x = none) (hv : bootBuiltins x = some (.builtin id)) (ha : VA X T W (e :: es) fs) (hn : x ≠ "__name__" := by decide) (hdb : (x == ("__debug__" : Str)) = false := by decide)
    (he : starEach (e :: es) X.env = (false, eval e X.env) :: starEach es X.env := by rfl) (hpl : (backTo pos (starEach es X.env)).any (·.1) = false := by rfl) : VE X T W (.Call (.Name x p) (e :: es) [] pos) (cCall g fs) :=
  pe_imp (pe_callB hc hg hm hv ha hn hdb he hpl) fun σ H Q h => tv_call hk h
theorem ve_callTy (hc : CallR X (.type Ty) rc) (hk : CallOk X.K rc g) (hg : Gl X x) (hm : X.mg x = none) (hv : bootBuiltins x = some (.type Ty)) (ha : VA X T W (e :: es) fs) (hn : x ≠ "__name__" := by decide) (hdb : (x == ("__debug__" : Str)) = false := by decide)
    (he : starEach (e :: es) X.env = (false, eval e X.env) :: starEach es X.env := by rfl) (hpl : (backTo pos (starEach es X.env)).any (·.1) = false := by rfl) : VE X T W (.Call (.Name x p) (e :: es) [] pos) (cCall g fs) :=
  pe_imp (pe_callTy hc hg hm hv ha hn hdb he hpl) fun σ H Q h => tv_call hk h
/-- len -/
def lenD : List PyData → Option PyData
  | [.list xs] => some (.int xs.length)
  | [.tuple xs] => some (.int xs.length)
  | [.str z] => if small z.length then some (.int z.length) else none
  | [.dict kvs] => some (.int kvs.length)
  | _ => none
theorem ok_lenD : CallOk K (fun xs H Q => ∃ x n, xs = [x] ∧ LenV K x H n ∧ Q (.int n) H) lenD := by
  intro F H vs ds z Q s h e k
  unfold lenD at e
  split at e
  · cases h with
    | cons h t =>
      cases t
      cases e
      obtain ⟨a, ws, rfl, h1, h2⟩ := h.list s
      exact ⟨_, ws.length, rfl, .inl ⟨ws, .inl h1, rfl⟩, k _ F H (.refl s) (by rw [dqAll_len h2]; exact .int _)⟩
  · cases h with
    | cons h t =>
      cases t
      cases e
      obtain ⟨a, ws, rfl, h1, h2, _⟩ := h.tup s
      exact ⟨_, ws.length, rfl, .inr ⟨ws, h1, rfl⟩, k _ F H (.refl s) (by rw [dqAll_len h2]; exact .int _)⟩
  · cases h with
    | cons h t =>
      cases t
      split at e
      · rename_i hz
        cases e
        cases h.str
        exact ⟨_, _, rfl, ⟨small_iff.mp hz, rfl⟩, k _ F H (.refl s) (.int _)⟩
      · cases e
  · cases h with
    | cons h t =>
      cases t
      cases e
      rcases h with h | ⟨_, _, _, _, z', _⟩
      · cases h with
        | @scr a ns hs => exact ⟨_, _, rfl, .inl ⟨_, s.seq hs, rfl⟩, k _ F H (.refl s) (by rw [List.length_map, List.length_map]; exact .int _)⟩
      · cases z'
  · cases e
/-- abs, min, max of two ints, int() -/
def absD : List PyData → Option PyData
  | [.int i] => some (.int (if i < 0 then -i else i))
  | _ => none
theorem ok_absD : CallOk K (fun xs H Q => ∃ i, xs = [.int i] ∧ Q (.int (if i < 0 then -i else i)) H) absD := by
  intro F H vs ds z Q s h e k
  unfold absD at e
  split at e
  · cases h with
    | cons h t =>
      cases t
      cases e
      cases h.int
      exact ⟨_, rfl, k _ F H (.refl s) (.int _)⟩
  · cases e
def min2D : List PyData → Option PyData
  | [.int i, .int j] => some (.int (if j < i then j else i))
  | _ => none
def max2D : List PyData → Option PyData
  | [.int i, .int j] => some (.int (if j > i then j else i))
  | _ => none
theorem ok_min2D : CallOk K (fun xs H Q => ∃ i j, xs = [.int i, .int j] ∧ Q (.int (if j < i then j else i)) H) min2D := by
  intro F H vs ds z Q s h e k
  unfold min2D at e
  split at e
  · cases h with
    | cons h t =>
      cases t with
      | cons h2 t =>
        cases t
        cases e
        cases h.int; cases h2.int
        exact ⟨_, _, rfl, k _ F H (.refl s) (.int _)⟩
  · cases e
theorem ok_max2D : CallOk K (fun xs H Q => ∃ i j, xs = [.int i, .int j] ∧ Q (.int (if j > i then j else i)) H) max2D := by
  intro F H vs ds z Q s h e k
  unfold max2D at e
  split at e
  · cases h with
    | cons h t =>
      cases t with
      | cons h2 t =>
        cases t
        cases e
        cases h.int; cases h2.int
        exact ⟨_, _, rfl, k _ F H (.refl s) (.int _)⟩
  · cases e
def intD : List PyData → Option PyData
  | [.int i] => some (.int i)
  | [.bool b] => some (.int (if b then 1 else 0))
  | _ => none
theorem ok_intD : CallOk K (fun xs H Q => (∃ i, xs = [.int i] ∧ Q (.int i) H) ∨ ∃ k, xs = [.bl k] ∧ Q (.int (if k then 1 else 0)) H) intD := by
  intro F H vs ds z Q s h e k
  unfold intD at e
  split at e
  · cases h with
    | cons h t =>
      cases t
      cases e
      cases h.int
      exact .inl ⟨_, rfl, k _ F H (.refl s) (.int _)⟩
  · cases h with
    | cons h t =>
      cases t
      cases e
      cases h.bl
      exact .inr ⟨_, rfl, k _ F H (.refl s) (.int _)⟩
  · cases e
/-- tuple(x), list(x) of a list or a tuple -/
def tupleD : List PyData → Option PyData
  | [.list xs] => some (.tuple xs)
  | [.tuple xs] => some (.tuple xs)
  | _ => none
theorem ok_tupleD : CallOk K (fun xs H Q => ∃ p ys, xs = [.ref p] ∧ ((SqL K H p ys ∧ ∀ l, H l = none → Q (.ref l) (upd H l (.tup ys))) ∨ (SqT K H p ys ∧ Q (.ref p) H))) tupleD := by
  intro F H vs ds z Q s h e k
  unfold tupleD at e
  split at e
  · cases h with
    | cons h t =>
      cases t
      cases e
      obtain ⟨a, ws, rfl, h1, h2⟩ := h.list s
      exact ⟨a, ws, rfl, .inl ⟨.inl h1, fun l nl => k _ _ _ (.new _ s nl) (.tup upd_same (dqAll_mono (same_upd (s.free nl)) _ _ h2))⟩⟩
  · cases h with
    | cons h t =>
      cases t
      cases e
      obtain ⟨a, ws, rfl, h1, h2, h3⟩ := h.tup s
      exact ⟨a, ws, rfl, .inr ⟨h1, k _ F H (.refl s) h3⟩⟩
  · cases e
def listD : List PyData → Option PyData
  | [.list xs] => some (.list xs)
  | [.tuple xs] => some (.list xs)
  | _ => none
theorem ok_listD : CallOk K (fun xs H Q => ∃ p ys, xs = [.ref p] ∧ (SqL K H p ys ∨ SqT K H p ys) ∧ ∀ l, H l = none → Q (.ref l) (upd H l (.lst ys))) listD := by
  intro F H vs ds z Q s h e k
  unfold listD at e
  split at e
  · cases h with
    | cons h t =>
      cases t
      cases e
      obtain ⟨a, ws, rfl, h1, h2⟩ := h.list s
      exact ⟨a, ws, rfl, .inl (.inl h1), fun l nl => k _ _ _ (.new _ s nl) (.lst (.inl upd_same) (dqAll_mono (same_upd (s.free nl)) _ _ h2))⟩
  · cases h with
    | cons h t =>
      cases t
      cases e
      obtain ⟨a, ws, rfl, h1, h2, h3⟩ := h.tup s
      exact ⟨a, ws, rfl, .inr h1, fun l nl => k _ _ _ (.new _ s nl) (.lst (.inl upd_same) (dqAll_mono (same_upd (s.free nl)) _ _ h2))⟩
  · cases e

/-! ### isinstance -/
def tyD : PyData → String
  | .none => "NoneType"
  | .bool _ => "bool"
  | .int _ => "int"
  | .str _ => "str"
  | .list _ => "list"
  | .tuple _ => "tuple"
  | .dict _ => "dict"
theorem tyX_of {H : Hp} {v : V} {d : PyData} (h : Dq K H v d) (hd : ∀ kvs, d ≠ .dict kvs) : TyX K H v (.type (tyD d)) := by
  cases h with
  | non => exact .base .non
  | bl b => exact .base (.bl b)
  | int b => exact .base (.int b)
  | str b => exact .base (.str b)
  | lst hs _ =>
    rcases hs with hs | ⟨o, hs⟩
    · exact .base (.lst hs)
    · exact .base (.frz hs)
  | tups hs _ =>
    rcases hs with hs | ⟨_, o, its, n, h1, h2, _⟩
    · exact .base (.tup hs)
    · exact .kTuple h1 h2
  | scr _ => exact absurd rfl (hd _)
/-- what isinstance tells, by a table -/
inductive BT where
  | int | bool | str | tuple | list
def BT.nm : BT → String
  | .int => "int"
  | .bool => "bool"
  | .str => "str"
  | .tuple => "tuple"
  | .list => "list"
def isiD (B : BT) (d : PyData) : Option Bool := match d with
  | .none => some false
  | .bool _ => some (match B with | .int => true | .bool => true | _ => false)
  | .int _ => some (match B with | .int => true | _ => false)
  | .str _ => some (match B with | .str => true | _ => false)
  | .list _ => some (match B with | .list => true | _ => false)
  | .tuple _ => some (match B with | .tuple => true | _ => false)
  | .dict _ => none
theorem isiD_ok {B : BT} {d : PyData} {b : Bool} (h : isiD B d = some b) : (∀ kvs, d ≠ .dict kvs) ∧ PySem.W.kitOne K (.type (tyD d)) (.type B.nm) = some b := by
  cases d
  case dict kvs => cases h
  all_goals
    refine ⟨(fun kvs z => nomatch z), ?_⟩
    cases B
    all_goals
      cases h
      simp only [tyD, BT.nm]
      exact kit_ty (by decide +kernel)
def cIsi (B : BT) (f : M Rv) : M Rv := bnd f fun x => fun ρ => match der ρ x with
  | some d => (match isiD B d with
    | some b => some (.ok (.d (.bool b)) ρ)
    | none => none)
  | none => none
theorem ve_isi {B : BT} {y : Str} {p' : Pos} (ha : VE X T W a fa) (hg : Gl X "isinstance") (hm : X.mg "isinstance" = none) (hg' : Gl X y) (hm' : X.mg y = none) (hv' : bootBuiltins y = some (.type B.nm)) (hn' : y ≠ "__name__" := by decide) (hd' : (y == ("__debug__" : Str)) = false := by decide)
    (h1 : starEach [a, .Name y p'] X.env = (false, eval a X.env) :: starEach [.Name y p'] X.env := by rfl) (h2 : (backTo pos (starEach [.Name y p'] X.env)).any (·.1) = false := by rfl) (h3 : starEach [.Name y p'] X.env = (false, eval (.Name y p') X.env) :: starEach [] X.env := by rfl) :
    VE X T W (.Call (.Name "isinstance" p) [a, .Name y p'] [] pos) (cIsi B fa) :=
  pe_imp (pe_callB call_isi hg hm (by decide +kernel) (pa_cons ha (pa_cons (pe_bltn (v := .ty B.nm) hg' hm' hv' rfl hn' hd') pa_nil h3) h1) (by decide) (by decide) h1 h2) fun σ H Q ⟨F, ρ, fp, o, E, e, P⟩ => by
    refine tv_bnd E e P (fun i hi => hi) fun x ρ1 v H1 F1 fp1 s1 r1 e1 P1 => ?_
    split at e1
    · rename_i d hd
      split at e1
      · rename_i b hb
        cases ok_inj e1
        have q := der_ok s1.env r1 hd
        obtain ⟨hd1, hd2⟩ := isiD_ok (K := X.K) hb
        exact ⟨v, .ty B.nm, _, _, b, rfl, .ty B.nm, tyX_of q hd1, hd2, P1 _ H1 F1 fp1 (.refl s1.env) (.bl b)⟩
      · cases e1
    · cases e1
end
end VL

end

section
set_option Elab.async false
set_option linter.all false
set_option maxRecDepth 100000
namespace VL
open PySem PySem.Spec PyProof.Rows L2

inductive Out where
  | nx (ρ : Rho)
  | rt (t : Tr) (ρ : Rho)
  | bk (ρ : Rho)
  | ct (ρ : Rho)
  | ex (c : Str) (ρ : Rho)
abbrev MS := Rho → Option Out
def SPst (K : Fg) (W : WV) (F H : Hp) (σ : Sg) (ρ : Rho) (fp : FP) (D : Ends) : Out → Prop
  | .nx ρ' => ∀ σ' H' F' fp', Step K F H σ ρ fp F' H' σ' ρ' fp' → D.nx σ' H'
  | .bk ρ' => ∀ σ' H' F' fp', Step K F H σ ρ fp F' H' σ' ρ' fp' → D.bk σ' H'
  | .ct ρ' => ∀ σ' H' F' fp', Step K F H σ ρ fp F' H' σ' ρ' fp' → D.ct σ' H'
  | .rt t ρ' => ∀ v A σ' H' F' fp', Step K F H σ ρ fp F' H' σ' ρ' fp' → NewOk K H fp F' H' fp' v t A → D.rt v H'
  | .ex c ρ' => ∀ σ' H' F' fp', Step K F H σ ρ fp F' H' σ' ρ' fp' → W c σ' H'
theorem NewOk.back {K : Fg} {F H F1 H1 F2 H2 : Hp} {σ σ1 : Sg} {ρ ρ1 : Rho} {fp fp1 fp2 : FP} {v : V} {t : Tr} {A : List Addr} (s : Step K F H σ ρ fp F1 H1 σ1 ρ1 fp1) (h : NewOk K H1 fp1 F2 H2 fp2 v t A) : NewOk K H fp F2 H2 fp2 v t A :=
  ⟨h.ok, h.nd, fun b hb => (h.new b hb).elim (fun z => .inl (s.dom b z)) fun z => (s.own b z).symm, h.out⟩
theorem SPst.step {K : Fg} {W : WV} {F H F1 H1 : Hp} {σ σ1 : Sg} {ρ ρ1 : Rho} {fp fp1 : FP} {D : Ends} (s : Step K F H σ ρ fp F1 H1 σ1 ρ1 fp1) : ∀ {o : Out}, SPst K W F H σ ρ fp D o → SPst K W F1 H1 σ1 ρ1 fp1 D o
  | .nx _, h => fun σ' H' F' fp' e => h σ' H' F' fp' (s.trans e)
  | .bk _, h => fun σ' H' F' fp' e => h σ' H' F' fp' (s.trans e)
  | .ct _, h => fun σ' H' F' fp' e => h σ' H' F' fp' (s.trans e)
  | .rt _ _, h => fun v A σ' H' F' fp' e n => h v A σ' H' F' fp' (s.trans e) (n.back s)
  | .ex _ _, h => fun σ' H' F' fp' e => h σ' H' F' fp' (s.trans e)
def tS (K : Fg) (W : WV) (g : MS) : TS := fun D σ H => ∃ F ρ fp o, EnvOk K F H σ ρ fp ∧ g ρ = some o ∧ SPst K W F H σ ρ fp D o
def VS (X : Cx) (W : WV) (st : Stmt) (g : MS) : Prop := PS X st (tS X.K W g)
def VSs (X : Cx) (W : WV) (st : List Stmt) (g : MS) : Prop := PSs X st (tS X.K W g)

section
variable {X : Cx} {T T1 T2 : List Nat} {W : WV} {K : Fg} {st : Stmt} {rest : List Stmt} {g h : MS} {fa : M Rv} {fn : M Tr} {e : Expr} {pos : Pos}
def sNil : MS := fun ρ => some (.nx ρ)
def sSeq (g h : MS) : MS := fun ρ => match g ρ with
  | some (.nx ρ1) => h ρ1
  | o => o
theorem vss_nil : VSs X W [] sNil := pss_imp pss_nil fun D σ H ⟨F, ρ, fp, o, E, e, P⟩ => by
  cases (Option.some.inj e)
  exact P σ H F fp (.refl E)
theorem vss_cons (h1 : VS X W st g) (h2 : VSs X W rest h) : VSs X W (st :: rest) (sSeq g h) := pss_imp (pss_cons h1 h2) fun D σ H ⟨F, ρ, fp, o, E, e, P⟩ => by
  unfold sSeq at e
  cases q : g ρ with
  | none => rw [q] at e; cases e
  | some r =>
    rw [q] at e
    cases r with
    | nx ρ1 => exact ⟨F, ρ, fp, _, E, q, fun σ' H' F' fp' s => ⟨F', ρ1, fp', o, s.env, e, P.step s⟩⟩
    | rt t ρ1 => cases e; exact ⟨F, ρ, fp, _, E, q, P⟩
    | bk ρ1 => cases e; exact ⟨F, ρ, fp, _, E, q, P⟩
    | ct ρ1 => cases e; exact ⟨F, ρ, fp, _, E, q, P⟩
    | ex c ρ1 => cases e; exact ⟨F, ρ, fp, _, E, q, P⟩
theorem vss_one (h1 : VS X W st g) : VSs X W [st] g := pss_one h1
/-- an expression, then -/
def sE {α : Type} (f : M α) (k : α → MS) : MS := fun ρ => match f ρ with
  | some (.ok a ρ1) => k a ρ1
  | some (.ex c ρ1) => some (.ex c ρ1)
  | none => none
theorem tv_st {α β : Type} {R : Rl K α β} {f : M α} {k : α → MS} {F H : Hp} {σ : Sg} {ρ : Rho} {fp : FP} {o : Out} {D : Ends} {Q1 : β → Hp → Prop} (E : EnvOk K F H σ ρ fp) (e : sE f k ρ = some o) (P : SPst K W F H σ ρ fp D o)
    (hk : ∀ a ρ1 b H1 F1 fp1, EStep K T F H σ ρ fp F1 H1 ρ1 fp1 → R.r H fp F1 H1 fp1 σ ρ1 b a → k a ρ1 = some o → SPst K W F1 H1 σ ρ1 fp1 D o → Q1 b H1) : TVg T W R f σ H Q1 := by
  unfold sE at e
  cases q : f ρ with
  | none => rw [q] at e; cases e
  | some r =>
    rw [q] at e
    cases r with
    | ok a ρ1 => exact ⟨F, ρ, fp, _, E, q, fun b H1 F1 fp1 st r => hk a ρ1 b H1 F1 fp1 st r e (P.step st.st)⟩
    | ex c ρ1 => cases e; exact ⟨F, ρ, fp, _, E, q, fun H1 F1 fp1 st => P σ H1 F1 fp1 st.st⟩
/-! ### return -/
def sRet (f : M Tr) : MS := sE f fun t => fun ρ => some (.rt t ρ)
theorem vs_ret (h : VN X T W e fn) : VS X W (.Return (some e) pos) (sRet fn) := ps_imp (ps_ret h) fun D σ H ⟨F, ρ, fp, o, E, e, P⟩ => by
  refine tv_st E e P fun t ρ1 v H1 F1 fp1 s1 r1 e1 _ => ?_
  cases (Option.some.inj e1)
  obtain ⟨A, n⟩ := r1
  exact P v A σ H1 F1 fp1 s1.st n
def sRetN : MS := fun ρ => some (.rt (.dat .none) ρ)
theorem vs_retN : VS X W (.Return none pos) sRetN := ps_imp ps_retN fun D σ H ⟨F, ρ, fp, o, E, e, P⟩ => by
  cases (Option.some.inj e)
  exact P .non [] σ H F fp (.refl E) ⟨.dat .non, List.nodup_nil, (fun b hb => nomatch hb), (fun b hb => nomatch hb)⟩
/-! ### a slot is set -/
def setSl (ρ : Rho) (i : Nat) (s : Sl) : Option Rho := match ρ[i]? with
  | some (.own .pin _) => none
  | some (.own .lock _) => none
  | some (.own (.bor _) _) => none
  | some _ => some (ρ.set i s)
  | none => none
theorem setSl_some {ρ ρ' : Rho} {i : Nat} {s : Sl} (h : setSl ρ i s = some ρ') : ρ' = ρ.set i s ∧ i < ρ.length ∧ (∀ m t, ρ[i]? = some (.own m t) → m.pn = false) ∧ (∀ t, ρ[i]? ≠ some (.own .lock t)) := by
  unfold setSl at h
  cases q : ρ[i]? with
  | none => rw [q] at h; cases h
  | some s0 =>
    have hi := (List.getElem?_eq_some_iff.mp q).1
    rw [q] at h
    cases s0 with
    | no => cases h; exact ⟨rfl, hi, (fun m t z => nomatch z), (fun t z => nomatch z)⟩
    | al _ _ => cases h; exact ⟨rfl, hi, (fun m t z => nomatch z), (fun t z => nomatch z)⟩
    | val d => cases h; exact ⟨rfl, hi, (fun m t z => nomatch z), (fun t z => nomatch z)⟩
    | own m t0 =>
      cases m with
      | free => cases h; exact ⟨rfl, hi, (fun m t z => by cases z; rfl), (fun t z => nomatch z)⟩
      | pin => cases h
      | lock => cases h
      | bor _ => cases h
def fset (fp : FP) (i : Nat) (A : List Addr) : FP := fun j => if j = i then A else fp j
theorem sg_set {σ : Sg} {i : Nat} {v : Option V} (h : i < σ.length) : sg (σ.set i v) i = v := by
  unfold sg
  rw [List.getElem?_set_self h]
  rfl
theorem sg_set_ne {σ : Sg} {i j : Nat} {v : Option V} (h : i ≠ j) : sg (σ.set i v) j = sg σ j := by
  unfold sg
  rw [List.getElem?_set_ne h]
def isOwn : Sl → Bool
  | .own _ _ => true
  | _ => false
/-- no alias, no borrowed tree -/
def plainSl : Sl → Bool
  | .al _ _ => false
  | .own (.bor _) _ => false
  | _ => true
theorem set_env {F H : Hp} {σ : Sg} {ρ : Rho} {fp : FP} {i : Nat} {v : V} {s : Sl} {A : List Addr} (E : EnvOk K F H σ ρ fp) (hi : i < ρ.length) (hs : SlOk K F H (some v) A s) (hn : A.Nodup) (ho : ∀ b ∈ A, ¬ Owns fp b) (ha : isOwn s = false → A = []) (hp : plainSl s = true := by rfl) :
    EnvOk K F H (σ.set i (some v)) (ρ.set i s) (fset fp i A) := by
  have hσ : i < σ.length := by rw [E.len]; exact hi
  refine ⟨E.sub, by rw [List.length_set, List.length_set]; exact E.len, fun j u hu => ?_, fun j hj => ?_, fun j => ?_, fun j l b h1 h2 => ?_, E.tb, E.al' (fun j k p h => ?_) fun k p t h => ?_⟩
  rotate_left 4
  · by_cases hji : i = j
    · subst hji
      rw [List.getElem?_set_self hi] at h
      cases h
      cases hp
    · rw [List.getElem?_set_ne hji] at h
      exact ⟨h, sg_set_ne hji⟩
  · by_cases hji : i = k
    · subst hji
      rw [List.getElem?_set_self hi] at h
      cases h
      cases hp
    · rw [List.getElem?_set_ne hji] at h
      exact ⟨h, sg_set_ne hji, fun _ _ => rfl⟩
  · by_cases hji : i = j
    · subst hji
      rw [List.getElem?_set_self hi] at hu
      cases hu
      rw [sg_set hσ]
      unfold fset
      rw [if_pos rfl]
      exact hs
    · rw [List.getElem?_set_ne hji] at hu
      rw [sg_set_ne hji]
      unfold fset
      rw [if_neg (Ne.symm hji)]
      exact E.sl j u hu
  · unfold fset
    by_cases hji : j = i
    · rw [if_pos hji]
      subst hji
      apply ha
      cases s with
      | own m t => exact absurd (List.getElem?_set_self hi) (hj m t)
      | _ => rfl
    · rw [if_neg hji]
      refine E.nil j fun m t z => hj m t ?_
      rw [List.getElem?_set_ne (Ne.symm hji)]
      exact z
  · unfold fset
    split
    · exact hn
    · exact E.nd j
  · unfold fset at h1 h2
    split at h1
    · split at h2
      · omega
      · exact absurd ⟨l, h2⟩ (ho b h1)
    · split at h2
      · exact absurd ⟨j, h1⟩ (ho b h2)
      · exact E.ap j l b h1 h2
theorem Owns.fset {fp : FP} {i : Nat} {A : List Addr} {b : Addr} (h : Owns (fset fp i A) b) : b ∈ A ∨ Owns fp b := by
  obtain ⟨j, h⟩ := h
  unfold VL.fset at h
  split at h
  · exact .inl h
  · exact .inr ⟨j, h⟩
/-- behind an expression's step: its value is stored -/
theorem set_step {F H F1 H1 : Hp} {σ : Sg} {ρ ρ1 ρ2 : Rho} {fp fp1 : FP} {i : Nat} {v : V} {s : Sl} {A : List Addr} (s1 : Step K F H σ ρ fp F1 H1 σ ρ1 fp1) (hset : setSl ρ1 i s = some ρ2) (hs : SlOk K F1 H1 (some v) A s) (hn : A.Nodup)
    (ho : ∀ b ∈ A, ¬ Owns fp1 b) (ha : isOwn s = false → A = []) (hw : ∀ b ∈ A, H b = none ∨ Owns fp b) (hp : plainSl s = true := by rfl) : Step K F H σ ρ fp F1 H1 (σ.set i (some v)) ρ2 (fset fp1 i A) := by
  obtain ⟨rfl, hi, np, nl⟩ := setSl_some hset
  refine ⟨set_env s1.env hi hs hn ho ha hp, s1.fr, s1.nf, s1.dom, s1.frame, fun b hb => ?_, fun j m t hj hm => ?_, fun j t hj => ?_⟩
  · rcases hb.fset with z | z
    · exact (hw b z).symm
    · exact s1.own b z
  · obtain ⟨e1, m', t', h1, k1⟩ := s1.pin j m t hj hm
    have hji : i ≠ j := fun z => by subst z; rw [np m' t' h1] at k1; cases k1
    exact ⟨by rw [sg_set_ne hji], m', t', by rw [List.getElem?_set_ne hji]; exact h1, k1⟩
  · obtain ⟨e1, h1, f1, g1⟩ := s1.lock j t hj
    have hji : i ≠ j := fun z => by subst z; exact nl t h1
    refine ⟨by rw [sg_set_ne hji], by rw [List.getElem?_set_ne hji]; exact h1, ?_, g1⟩
    unfold fset
    rw [if_neg (Ne.symm hji)]
    exact f1
/-! ### name = value -/
def putD (i : Nat) (d : PyData) : MS := fun ρ => (setSl ρ i (.val d)).map .nx
def sSet (i : Nat) (f : M Rv) : MS := sE f fun x => match x with
  | .d d => putD i d
  | .o _ => fun _ => none
theorem put_val {F H F1 H1 : Hp} {σ : Sg} {ρ ρ1 ρ2 : Rho} {fp fp1 : FP} {i : Nat} {v : V} {d : PyData} (s1 : Step K F H σ ρ fp F1 H1 σ ρ1 fp1) (hset : setSl ρ1 i (.val d) = some ρ2) (hd : Dq K F1 v d) : Step K F H σ ρ fp F1 H1 (σ.set i (some v)) ρ2 (fset fp1 i []) :=
  set_step s1 hset ⟨v, rfl, hd⟩ List.nodup_nil (fun b hb => nomatch hb) (fun _ => rfl) (fun b hb => nomatch hb)
theorem map_some {α β : Type} {f : α → β} {o : Option α} {b : β} (h : o.map f = some b) : ∃ a, o = some a ∧ b = f a := by
  cases o with
  | none => cases h
  | some a => exact ⟨a, rfl, (Option.some.inj h).symm⟩
theorem vs_set {i : Nat} {x : Str} {pos' : Pos} (hN : X.N.Nodup) (he : VE X T W e fa) (hi : X.N[i]? = some x := by rfl) (hx : Loc X.env.scope x := by first | exact Or.inl rfl | exact Or.inr rfl) (hs : swapsWith e (some (.Name x pos')) pos.line X.env = pure false := by rfl)
    (hf : X.fn x = true ∨ X.env.scope.names.lookup x = some .local := by first | exact .inl rfl | exact .inr rfl | assumption) : VS X W (.Assign [.Name x pos'] e pos) (sSet i fa) :=
  ps_imp (ps_set hN hi hx he hs hf) fun D σ H ⟨F, ρ, fp, o, E, e, P⟩ => by
    refine tv_st E e P fun r ρ1 v H1 F1 fp1 s1 r1 e1 _ => ?_
    cases r with
    | o _ => cases e1
    | d d =>
      obtain ⟨ρ2, e2, rfl⟩ := map_some e1
      exact P _ H1 F1 _ (put_val s1.st e2 r1)
def sSetN (i : Nat) (f : M Tr) : MS := sE f fun t => fun ρ => (setSl ρ i (.own .free t)).map .nx
theorem vs_setN {i : Nat} {x : Str} {pos' : Pos} (hN : X.N.Nodup) (he : VN X T W e fn) (hi : X.N[i]? = some x := by rfl) (hx : Loc X.env.scope x := by first | exact Or.inl rfl | exact Or.inr rfl) (hs : swapsWith e (some (.Name x pos')) pos.line X.env = pure false := by rfl)
    (hf : X.fn x = true ∨ X.env.scope.names.lookup x = some .local := by first | exact .inl rfl | exact .inr rfl | assumption) : VS X W (.Assign [.Name x pos'] e pos) (sSetN i fn) :=
  ps_imp (ps_set hN hi hx he hs hf) fun D σ H ⟨F, ρ, fp, o, E, e, P⟩ => by
    refine tv_st E e P fun t ρ1 v H1 F1 fp1 s1 ⟨A, n⟩ e1 _ => ?_
    obtain ⟨ρ2, e2, rfl⟩ := map_some e1
    exact P _ H1 F1 _ (set_step s1.st e2 ⟨v, rfl, n.ok⟩ n.nd n.out (fun z => nomatch z) n.new)
/-! ### targets -/
abbrev MG := PyData → Rho → Option Rho
/-- nothing but the slots vs is changed -/
def Off (vs : List Nat) (σ : Sg) (ρ : Rho) (fp : FP) (σ' : Sg) (ρ' : Rho) (fp' : FP) : Prop := σ'.length = σ.length ∧ ∀ (i : Nat), i ∉ vs → sg σ' i = sg σ i ∧ ρ'[i]? = ρ[i]? ∧ fp' i = fp i
theorem Off.refl {vs : List Nat} {σ : Sg} {ρ : Rho} {fp : FP} : Off vs σ ρ fp σ ρ fp := ⟨rfl, fun _ _ => ⟨rfl, rfl, rfl⟩⟩
theorem Off.trans {us vs : List Nat} {σ σ1 σ2 : Sg} {ρ ρ1 ρ2 : Rho} {fp fp1 fp2 : FP} (a : Off us σ ρ fp σ1 ρ1 fp1) (b : Off vs σ1 ρ1 fp1 σ2 ρ2 fp2) : Off (us ++ vs) σ ρ fp σ2 ρ2 fp2 :=
  ⟨b.1.trans a.1, fun i hi => by
    obtain ⟨a1, a2, a3⟩ := a.2 i fun z => hi (List.mem_append_left _ z)
    obtain ⟨b1, b2, b3⟩ := b.2 i fun z => hi (List.mem_append_right _ z)
    exact ⟨b1.trans a1, b2.trans a2, b3.trans a3⟩⟩
def GOk (K : Fg) (g : TG) (ws : List Nat) (G : MG) : Prop := ∀ v σ H Q F ρ fp d ρ', EnvOk K F H σ ρ fp → Dq K F v d → G d ρ = some ρ' → (∀ σ' fp', Step K F H σ ρ fp F H σ' ρ' fp' → Off ws σ ρ fp σ' ρ' fp' → Q σ' H) → g v σ H Q
def VG (X : Cx) (tg : Expr) (g : TG) (ws : List Nat) (G : MG) : Prop := PG X tg g ∧ GOk X.K g ws G
def gN (i : Nat) : MG := fun d ρ => setSl ρ i (.val d)
theorem vg_name {i : Nat} {x : Str} (hN : X.N.Nodup) (hi : X.N[i]? = some x := by rfl) (hx : Loc X.env.scope x := by first | exact Or.inl rfl | exact Or.inr rfl) (hf : X.fn x = true ∨ X.env.scope.names.lookup x = some .local := by first | exact .inl rfl | exact .inr rfl | assumption) : VG X (.Name x pos) (gName i) [i] (gN i) :=
  ⟨pg_name hN hi hx hf, fun v σ H Q F ρ fp d ρ' E hd e k => k _ _ (put_val (.refl E) e hd) (by
    obtain ⟨rfl, h2, h3, h4⟩ := setSl_some e
    refine ⟨List.length_set, fun j hj => ?_⟩
    have hij : i ≠ j := fun z => hj (by simp [z])
    refine ⟨sg_set_ne hij, List.getElem?_set_ne hij, ?_⟩
    unfold fset
    rw [if_neg (Ne.symm hij)])⟩
abbrev MGs := List PyData → Rho → Option Rho
def VGs (X : Cx) (tgs : List Expr) (g : TGs) (ws : List Nat) (G : MGs) : Prop := PGs X tgs g ∧ ∀ vs σ H Q F ρ fp ds ρ', EnvOk X.K F H σ ρ fp → DqAll X.K F vs ds → G ds ρ = some ρ' → (∀ σ' fp', Step X.K F H σ ρ fp F H σ' ρ' fp' → Off ws σ ρ fp σ' ρ' fp' → Q σ' H) → g vs σ H Q
def gsN : MGs := fun ds ρ => match ds with
  | [] => some ρ
  | _ => none
def gsC (G : MG) (Gs : MGs) : MGs := fun ds ρ => match ds with
  | d :: r => (match G d ρ with
    | some ρ1 => Gs r ρ1
    | none => none)
  | [] => none
theorem vgs_nil : VGs X [] gNil [] gsN := ⟨pgs_nil, fun vs σ H Q F ρ fp ds ρ' E hd e k => by
  unfold gsN at e
  split at e
  · cases hd
    cases e
    exact ⟨rfl, k σ fp (.refl E) .refl⟩
  · cases e⟩
theorem vgs_cons {tg : Expr} {tgs : List Expr} {us vs : List Nat} {g : TG} {gs : TGs} {G : MG} {Gs : MGs} (h1 : VG X tg g us G) (h2 : VGs X tgs gs vs Gs) (hs : (assignEach (tg :: tgs) X.env).map (·.2) = assign tg X.env :: (assignEach tgs X.env).map (·.2) := by rfl) : VGs X (tg :: tgs) (gCons g gs) (us ++ vs) (gsC G Gs) := by
  obtain ⟨p1, q1⟩ := h1
  obtain ⟨p2, q2⟩ := h2
  refine ⟨pgs_cons p1 p2 hs, fun vs σ H Q F ρ fp ds ρ' E hd e k => ?_⟩
  unfold gsC at e
  split at e
  · cases hd with
    | cons hv hr =>
      split at e
      · rename_i ρ1 e1
        refine ⟨_, _, rfl, q1 _ σ H _ F ρ fp _ ρ1 E hv e1 fun σ1 fp1 s1 o1 => ?_⟩
        exact q2 _ σ1 H Q F ρ1 fp1 _ ρ' s1.env hr e fun σ' fp' s2 o2 => k σ' fp' (s1.trans s2) (o1.trans o2)
      · cases e
  · cases e
def gT (n : Nat) (Gs : MGs) : MG := fun d ρ => match d with
  | .tuple ds => if ds.length = n then Gs ds ρ else none
  | _ => none
theorem vg_tup {es : List Expr} {k n : Nat} {vs : List Nat} {gs : TGs} {Gs : MGs} (hc : X.calm = true) (h : VGs X es gs vs Gs) (hn : (assignEach es X.env).length = n := by rfl) (hst : (assignEach es X.env).findIdx? (·.1) = none := by rfl) : VG X (.Tuple es k pos) (gTup X.K n gs) vs (gT n Gs) := by
  obtain ⟨p1, q1⟩ := h
  refine ⟨pg_tup hc p1 hn hst, fun v σ H Q F ρ fp d ρ' E hd e k => ?_⟩
  unfold gT at e
  split at e
  · split at e
    · rename_i hl
      cases hd with
      | tups hs ha => exact ⟨_, _, rfl, (hs.mono E.sub).sq, by rw [dqAll_len ha]; exact hl, q1 _ σ H Q F ρ fp _ ρ' E ha e k⟩
    · cases e
  · cases e
/-- target = data -/
def sAsg (G : MG) (f : M Rv) : MS := sE f fun x => fun ρ => match x with
  | .d d => (G d ρ).map .nx
  | .o _ => none
theorem vs_asg {tg : Expr} {gt : TG} {ws : List Nat} {G : MG} (he : VE X T W e fa) (hg : VG X tg gt ws G) (hs : swapsWithSole [tg] e pos.line X.env = pure false := by rfl) (hw : swappedStores [tg] e X.env = pure none := by rfl)
    (h1 : (assignEach [tg] X.env).map (·.2) = [assign tg X.env] := by rfl) : VS X W (.Assign [tg] e pos) (sAsg G fa) := by
  obtain ⟨p1, q1⟩ := hg
  refine ps_imp (ps_asg he p1 hs hw h1) fun D σ H ⟨F, ρ, fp, o, E, e, P⟩ => ?_
  refine tv_st E e P fun r ρ1 v H1 F1 fp1 s1 r1 e1 P1 => ?_
  cases r with
  | o _ => cases e1
  | d d =>
    obtain ⟨ρ2, e2, rfl⟩ := map_some e1
    exact q1 v σ H1 _ F1 ρ1 fp1 d ρ2 s1.env r1 e2 fun σ' fp' s2 _ => P1 σ' H1 F1 fp' s2
/-- name op= e, ints -/
def augI (i : Nat) (f : Int → Int → Int) (a : Int) (y : Rv) : MS := fun ρ => match y with
  | .d (.int b) => putD i (.int (f a b)) ρ
  | _ => none
def sAug (i : Nat) (f : Int → Int → Int) (fa : M Rv) : MS := fun ρ => match ρ[i]? with
  | some (.val (.int a)) => sE fa (augI i f a) ρ
  | some (.own _ (.dat (.int a))) => sE fa (augI i f a) ρ
  | _ => none
theorem vs_aug {i : Nat} {x : Str} {op : Operator} {f : Int → Int → Int} {pos' : Pos} (hN : X.N.Nodup) (he : VE X T W e fa) (ho : PIp X op (ipI f)) (hi : X.N[i]? = some x := by rfl) (hx : Loc X.env.scope x := by first | exact Or.inl rfl | exact Or.inr rfl) (hf : X.fn x = true ∨ X.env.scope.names.lookup x = some .local := by first | exact .inl rfl | exact .inr rfl | assumption) :
    VS X W (.AugAssign (.Name x pos') op e pos) (sAug i f fa) := ps_imp (ps_aug hN hi hx he ho hf) fun D σ H ⟨F, ρ, fp, o, E, e, P⟩ => by
  have go : ∀ a : Int, sE fa (augI i f a) ρ = some o → tV X.K T W fa σ H fun y H1 => ipI f (.int a) y H1 fun z H2 => D.nx (σ.set i (some z)) H2 := fun a e => by
    refine tv_st E e P fun r ρ1 v H1 F1 fp1 s1 r1 e1 _ => ?_
    unfold augI at e1
    split at e1
    · cases r1
      obtain ⟨ρ2, e2, rfl⟩ := map_some e1
      exact ⟨_, _, rfl, rfl, P _ H1 F1 _ (put_val s1.st e2 (.int _))⟩
    · cases e1
  unfold sAug at e
  split at e
  · rename_i a hq
    obtain ⟨u, hu, q⟩ := E.sl i _ hq
    cases q
    exact ⟨_, sg_some.mp hu, go a e⟩
  · rename_i m a hq
    obtain ⟨u, hu, q⟩ := E.sl i _ hq
    generalize fp i = A at q
    cases q with
    | dat q =>
      cases q
      exact ⟨_, sg_some.mp hu, go a e⟩
  · cases e
/-! ### if, pass, break, continue -/
variable {fc : M Bool} {c : Expr} {body els : List Stmt}
def sIf (c : M Bool) (g h : MS) : MS := sE c fun b => if b then g else h
theorem vs_if (hc : VT X T W c fc) (ha : VSs X W body g) (hb : VSs X W els h) : VS X W (.If c body els pos) (sIf fc g h) := ps_imp (ps_if hc ha hb) fun D σ H ⟨F, ρ, fp, o, E, e, P⟩ => by
  refine tv_st E e P fun x ρ1 v H1 F1 fp1 s1 r1 e1 P1 => ?_
  have r1 : v = x := r1
  subst r1
  cases v with
  | true =>
    rw [if_pos rfl] at e1 ⊢
    exact ⟨F1, ρ1, fp1, o, s1.env, e1, P1⟩
  | false =>
    rw [if_neg Bool.false_ne_true] at e1 ⊢
    exact ⟨F1, ρ1, fp1, o, s1.env, e1, P1⟩
theorem vs_pass : VS X W (.Pass pos) sNil := ps_imp ps_pass fun D σ H ⟨F, ρ, fp, o, E, e, P⟩ => by
  cases (Option.some.inj e)
  exact P σ H F fp (.refl E)
def sBk : MS := fun ρ => some (.bk ρ)
def sCt : MS := fun ρ => some (.ct ρ)
theorem vs_break : VS X W (.Break pos) sBk := ps_imp ps_break fun D σ H ⟨F, ρ, fp, o, E, e, P⟩ => by
  cases (Option.some.inj e)
  exact P σ H F fp (.refl E)
theorem vs_continue : VS X W (.Continue pos) sCt := ps_imp ps_continue fun D σ H ⟨F, ρ, fp, o, E, e, P⟩ => by
  cases (Option.some.inj e)
  exact P σ H F fp (.refl E)
/-- a statement that is never reached -/
def sNever : MS := fun _ => none
theorem vs_never : VS X W st sNever := ps_imp ps_never fun D σ H ⟨F, ρ, fp, o, E, e, P⟩ => by cases e
/-- an expression dropped -/
def sDrop (f : M Rv) : MS := sE f fun _ => sNil
theorem vs_expr (he : VE X T W e fa) (hs : swapsWith e none pos.line X.env = pure false := by rfl) : VS X W (.Expr e pos) (sDrop fa) := ps_imp (ps_expr he hs) fun D σ H ⟨F, ρ, fp, o, E, e, P⟩ => by
  refine tv_st E e P fun x ρ1 v H1 F1 fp1 s1 r1 e1 P1 => ?_
  cases (Option.some.inj e1)
  exact P1 σ H1 F1 fp1 (.refl s1.env)
theorem vs_doc {x j} {pos' : Pos} : VS X W (.Expr (.Constant (.str x) j pos') pos) sNil := ps_imp ps_doc fun D σ H ⟨F, ρ, fp, o, E, e, P⟩ => by
  cases (Option.some.inj e)
  exact P σ H F fp (.refl E)
/-! ### what is walked: data -/
def VI (X : Cx) (T : List Nat) (W : WV) (tg iter : Expr) (f : M (List PyData)) : Prop := ∃ wi, PI X tg iter wi ∧ ∀ σ H R F ρ fp o, EnvOk X.K F H σ ρ fp → f ρ = some o →
  (match o with
   | Er.ok xs ρ' => ∀ J G Y H1 F1 fp1, EStep X.K T F H σ ρ fp F1 H1 ρ' fp1 → Walk J xs.length G Y → (∀ F2 H2, Same F1 F2 → Same F2 H2 → G H2) →
      (∀ i F2 H2 x H3, i < xs.length → Same F1 F2 → Same F2 H2 → Y i H2 x H3 → ∃ F3 d, xs[i]? = some d ∧ Grow F2 H2 F3 H3 ∧ Dq X.K F3 x d) → R J H1
   | Er.ex c ρ' => ∀ H1 F1 fp1, EStep X.K T F H σ ρ fp F1 H1 ρ' fp1 → W c σ H1) → wi σ H R
theorem pi_or {tg iter : Expr} {w w' : TI} (h : PI X tg iter w) (h' : PI X tg iter w') : PI X tg iter (fun σ H R => w σ H R ∨ w' σ H R) := ⟨fun pins s σ H R I q => q.elim (h.run pins s σ H R I) (h'.run pins s σ H R I)⟩
def itemsOf : PyData → Option (List PyData)
  | .list xs => some xs
  | .tuple xs => some xs
  | _ => none
def iSeq (f : M Rv) : M (List PyData) := bnd f fun x => fun ρ => match x with
  | .d d => (match itemsOf d with
    | some xs => some (.ok xs ρ)
    | none => none)
  | .o _ => none
theorem vi_seq {tg : Expr} (he : VE X T W e fa) : VI X T W tg e (iSeq fa) := by
  refine ⟨_, pi_or (pi_list he) (pi_tup he), fun σ H R F ρ fp o E q P => ?_⟩
  unfold iSeq bnd at q
  cases hf : fa ρ with
  | none => rw [hf] at q; cases q
  | some r =>
    rw [hf] at q
    cases r with
    | ex c ρ1 => cases q; exact .inl ⟨F, ρ, fp, _, E, hf, fun H1 F1 fp1 s1 => P H1 F1 fp1 s1⟩
    | ok x ρ1 =>
      cases x with
      | o i => cases q
      | d d =>
        simp only at q
        split at q
        · rename_i xs hx
          cases q
          unfold itemsOf at hx
          split at hx
          · cases hx
            refine .inl ⟨F, ρ, fp, _, E, hf, fun v H1 F1 fp1 s1 r1 => ?_⟩
            cases r1 with
            | @lst a0 vs0 _ hs ha =>
              have w0 := walk_list (K := X.K) (a := a0) (xs := vs0)
              rw [dqAll_len ha] at w0
              refine ⟨_, rfl, ⟨_, .inl (rd_mono s1.env.sub hs)⟩, P _ _ _ H1 F1 fp1 s1 w0 (fun F2 H2 a b => .inl (rd_mono (a.trans b) hs)) fun i F2 H2 x H3 hi a b y => ?_⟩
              obtain ⟨rfl, hy⟩ := y
              obtain ⟨v, hv, dv⟩ := dqAll_get ha (List.getElem?_eq_getElem hi)
              rw [hv] at hy; cases hy
              exact ⟨F2, _, List.getElem?_eq_getElem hi, .refl b, dq_mono a _ _ dv⟩
          · cases hx
            refine .inr ⟨F, ρ, fp, _, E, hf, fun v H1 F1 fp1 s1 r1 => ?_⟩
            cases r1 with
            | @tups a0 vs0 _ hs ha =>
              have w0 := walk_tup (K := X.K) (a := a0) (xs := vs0)
              rw [dqAll_len ha] at w0
              refine ⟨_, rfl, ⟨_, (hs.mono s1.env.sub).sq⟩, P _ _ _ H1 F1 fp1 s1 w0 (fun F2 H2 a b => (hs.mono (a.trans b)).sq) fun i F2 H2 x H3 hi a b y => ?_⟩
              obtain ⟨rfl, hy⟩ := y
              obtain ⟨v, hv, dv⟩ := dqAll_get ha (List.getElem?_eq_getElem hi)
              rw [hv] at hy; cases hy
              exact ⟨F2, _, List.getElem?_eq_getElem hi, .refl b, dq_mono a _ _ dv⟩
          · cases hx
        · cases q
/-- range(n), range(a, b) -/
def rangeD (lo : Int) (n : Nat) : List PyData := (List.range n).map fun i => .int (lo + (i : Nat))
def iRange1 (f : M (List Rv)) : M (List PyData) := bnd f fun rs => fun ρ => match rs with
  | [.d (.int j)] => if -(2 ^ 62) ≤ j ∧ j < 2 ^ 62 then some (.ok (rangeD 0 j.toNat) ρ) else none
  | _ => none
def iRange2 (f : M (List Rv)) : M (List PyData) := bnd f fun rs => fun ρ => match rs with
  | [.d (.int i), .d (.int j)] => if -(2 ^ 62) ≤ i ∧ i < 2 ^ 62 ∧ -(2 ^ 62) ≤ j ∧ j < 2 ^ 62 then some (.ok (rangeD i (j - i).toNat) ρ) else none
  | _ => none
theorem rangeD_len (lo : Int) (n : Nat) : (rangeD lo n).length = n := by unfold rangeD; simp
theorem rangeD_get {lo : Int} {n i : Nat} (h : i < n) : (rangeD lo n)[i]? = some (.int (lo + (i : Nat))) := by
  unfold rangeD
  rw [List.getElem?_map, List.getElem?_range h]
  rfl
theorem vi_range1 {tg a : Expr} {fs : M (List Rv)} {p : Pos} (hg : Gl X "range") (hm : X.mg "range" = none) (ha : VA X T W [a] fs) (hs : starEach [a] X.env = [(false, eval a X.env)] := by rfl) : VI X T W tg (.Call (.Name "range" p) [a] [] pos) (iRange1 fs) := by
  refine ⟨_, pi_range1 hg hm ha hs, fun σ H R F ρ fp o E q P => ?_⟩
  unfold iRange1 bnd at q
  cases hf : fs ρ with
  | none => rw [hf] at q; cases q
  | some r =>
    rw [hf] at q
    cases r with
    | ex c ρ1 => cases q; exact ⟨F, ρ, fp, _, E, hf, fun H1 F1 fp1 s1 => P H1 F1 fp1 s1⟩
    | ok rs ρ1 =>
      refine ⟨F, ρ, fp, _, E, hf, fun vs H1 F1 fp1 s1 r1 => ?_⟩
      simp only at q
      split at q
      · split at q
        · rename_i j hj
          cases q
          cases r1 with
          | cons h t =>
            cases t
            cases h
            refine ⟨j, rfl, hj.1, hj.2, P _ _ _ H1 F1 fp1 s1 (by rw [rangeD_len]; exact walk_range) (fun _ _ _ _ => trivial) fun i F2 H2 x H3 hi a b y => ?_⟩
            obtain ⟨rfl, rfl⟩ := y
            rw [rangeD_len] at hi
            exact ⟨F2, _, rangeD_get hi, .refl b, .int _⟩
        · cases q
      · cases q
theorem vi_range2 {tg a b : Expr} {fs : M (List Rv)} {p : Pos} (hg : Gl X "range") (hm : X.mg "range" = none) (ha : VA X T W [a, b] fs) (hs : starEach [a, b] X.env = [(false, eval a X.env), (false, eval b X.env)] := by rfl) (hs2 : starEach [b] X.env = [(false, eval b X.env)] := by rfl) :
    VI X T W tg (.Call (.Name "range" p) [a, b] [] pos) (iRange2 fs) := by
  refine ⟨_, pi_range2 hg hm ha hs hs2, fun σ H R F ρ fp o E q P => ?_⟩
  unfold iRange2 bnd at q
  cases hf : fs ρ with
  | none => rw [hf] at q; cases q
  | some r =>
    rw [hf] at q
    cases r with
    | ex c ρ1 => cases q; exact ⟨F, ρ, fp, _, E, hf, fun H1 F1 fp1 s1 => P H1 F1 fp1 s1⟩
    | ok rs ρ1 =>
      refine ⟨F, ρ, fp, _, E, hf, fun vs H1 F1 fp1 s1 r1 => ?_⟩
      simp only at q
      split at q
      · split at q
        · rename_i i0 j hj
          cases q
          cases r1 with
          | cons h t =>
            cases t with
            | cons h2 t =>
              cases t
              cases h; cases h2
              refine ⟨i0, j, rfl, hj, P _ _ _ H1 F1 fp1 s1 (by rw [rangeD_len]; exact walk_range) (fun _ _ _ _ => trivial) fun i F2 H2 x H3 hi a b y => ?_⟩
              obtain ⟨rfl, rfl⟩ := y
              rw [rangeD_len] at hi
              exact ⟨F2, _, rangeD_get hi, .refl b, .int _⟩
        · cases q
      · cases q
/-- enumerate(list) -/
def enumD (xs : List PyData) : List PyData := xs.zipIdx.map fun p => .tuple [.int (p.2 : Nat), p.1]
theorem enumD_len (xs : List PyData) : (enumD xs).length = xs.length := by unfold enumD; simp
theorem enumD_get {xs : List PyData} {i : Nat} {d : PyData} (h : xs[i]? = some d) : (enumD xs)[i]? = some (.tuple [.int (i : Nat), d]) := by
  unfold enumD
  rw [List.getElem?_map, List.getElem?_zipIdx, h]
  simp
def iEnumL (f : M (List Rv)) : M (List PyData) := bnd f fun rs => fun ρ => match rs with
  | [.d (.list xs)] => some (.ok (enumD xs) ρ)
  | _ => none
theorem pair_ok {F2 H2 H3 : Hp} {x y v : V} {Tn : Addr} {dx dy : PyData} (b : Same F2 H2) (hn : H2 Tn = none) (e3 : H3 = upd H2 Tn (.tup [x, y])) (hx : Dq K F2 x dx) (hy : Dq K F2 y dy) : ∃ F3, Grow F2 H2 F3 H3 ∧ Dq K F3 (.ref Tn) (.tuple [dx, dy]) := by
  subst e3
  have s3 : Same F2 (upd F2 Tn (.tup [x, y])) := same_upd (b.free hn)
  exact ⟨_, .new _ b hn, .tup upd_same (.cons (dq_mono s3 _ _ hx) (.cons (dq_mono s3 _ _ hy) .nil))⟩
theorem vi_enumL {a : Expr} {elts : List Expr} {kk : Nat} {tpos : Pos} {fs : M (List Rv)} {p : Pos} (hg : Gl X "enumerate") (hm : X.mg "enumerate" = none) (ha : VA X T W [a] fs) (hs : starEach [a] X.env = [(false, eval a X.env)] := by rfl) :
    VI X T W (.Tuple elts kk tpos) (.Call (.Name "enumerate" p) [a] [] pos) (iEnumL fs) := by
  refine ⟨_, pi_enum hg hm ha hs, fun σ H R F ρ fp o E q P => ?_⟩
  unfold iEnumL bnd at q
  cases hf : fs ρ with
  | none => rw [hf] at q; cases q
  | some r =>
    rw [hf] at q
    cases r with
    | ex c ρ1 => cases q; exact ⟨F, ρ, fp, _, E, hf, fun H1 F1 fp1 s1 => P H1 F1 fp1 s1⟩
    | ok rs ρ1 =>
      refine ⟨F, ρ, fp, _, E, hf, fun vs H1 F1 fp1 s1 r1 => ?_⟩
      simp only at q
      split at q
      · rename_i xs
        cases q
        cases r1 with
        | cons h t =>
          cases t
          cases h with
          | @lst a0 vs0 _ hs ha =>
            have w0 := walk_enum (K := X.K) (a := a0) (xs := vs0)
            rw [dqAll_len ha, ← enumD_len] at w0
            refine ⟨_, _, rfl, .inl (rd_mono s1.env.sub hs), P _ _ _ H1 F1 fp1 s1 w0 (fun F2 H2 a b => .inl (rd_mono (a.trans b) hs)) fun i F2 H2 x H3 hi a b y => ?_⟩
            obtain ⟨Tn, x1, y1, rfl, hn, e3, hx, hy⟩ := y
            rw [enumD_len] at hi
            obtain ⟨v, hv, dv⟩ := dqAll_get ha (List.getElem?_eq_getElem hi)
            have hy : vs0[i]? = some y1 := hy
            rw [hv] at hy; cases hy
            cases hx
            obtain ⟨F3, g3, d3⟩ := pair_ok (K := X.K) (v := .non) b hn e3 (.int _) (dq_mono a _ _ dv)
            exact ⟨F3, _, enumD_get (List.getElem?_eq_getElem hi), g3, d3⟩
      · cases q
/-! ### for -/
def loopF (G : MG) (body : MS) : List PyData → MS
  | [], ρ => some (.nx ρ)
  | x :: xs, ρ => match G x ρ with
    | none => none
    | some ρ1 => match body ρ1 with
      | some (.nx ρ2) => loopF G body xs ρ2
      | some (.ct ρ2) => loopF G body xs ρ2
      | some (.bk ρ2) => some (.nx ρ2)
      | o => o
def sFor (fi : M (List PyData)) (G : MG) (body : MS) : MS := sE fi fun xs => loopF G body xs
theorem vs_for {tg iter : Expr} {gt : TG} {ws : List Nat} {fi : M (List PyData)} {G : MG} (hp : PassesOwn (model X.prog X.w) X.A X.env X.xe) (hc : X.calm = true) (hi : VI X T W tg iter fi) (hg : VG X tg gt ws G) (hb : VSs X W body g)
    (hs : ∀ x, foldedSetIterable iter X.env x = pure x := by intro _; rfl) : VS X W (.For tg iter body [] pos) (sFor fi G g) := by
  obtain ⟨wi, p1, q1⟩ := hi
  obtain ⟨p2, q2⟩ := hg
  refine ps_imp (ps_for hp hc p1 p2 hb hs) fun D σ H ⟨F, ρ, fp, o, E, e, P⟩ => ?_
  unfold sFor sE at e
  cases hf : fi ρ with
  | none => rw [hf] at e; cases e
  | some r =>
    rw [hf] at e
    cases r with
    | ex c ρ1 => cases e; exact q1 σ H _ F ρ fp _ E hf fun H1 F1 fp1 s1 => P σ H1 F1 fp1 s1.st
    | ok xs ρ1 =>
      refine q1 σ H _ F ρ fp _ E hf fun J Gw Y H1 F1 fp1 s1 w hG hY => ?_
      have P1 := P.step s1.st
      refine for_it w (fun i σ' H' => ∃ F' ρ' fp', Step X.K F1 H1 σ ρ1 fp1 F' H' σ' ρ' fp' ∧ loopF G g (xs.drop i) ρ' = some o) ⟨F1, ρ1, fp1, .refl s1.env, by rw [List.drop_zero]; exact e⟩
        (fun i σ' H' _ ⟨F', ρ', fp', s2, _⟩ => hG F' H' s2.fr s2.env.sub) (fun i x σ' H' H3 hi ⟨F', ρ', fp', s2, e2⟩ y => ?_) fun σ' H' ⟨F', ρ', fp', s2, e2⟩ => ?_
      · obtain ⟨F3, d, hd, g3, dx⟩ := hY i F' H' x H3 hi s2.fr s2.env.sub y
        have hdrop : xs.drop i = d :: xs.drop (i + 1) := by
          obtain ⟨hi', hd'⟩ := List.getElem?_eq_some_iff.mp hd
          rw [List.drop_eq_getElem_cons hi', hd']
        rw [hdrop] at e2
        unfold loopF at e2
        have s3 : Step X.K F1 H1 σ ρ1 fp1 F3 H3 σ' ρ' fp' := s2.trans (g3.step (T := []) s2.env).st
        split at e2
        · cases e2
        · rename_i ρ4 h4
          refine q2 x σ' H3 _ F3 ρ' fp' d ρ4 s3.env dx h4 fun σ4 fp4 s4 _ => ?_
          have s5 := s3.trans s4
          split at e2
          · rename_i ρ5 h5
            exact ⟨F3, ρ4, fp4, _, s4.env, h5, fun σ6 H6 F6 fp6 s6 => ⟨F6, ρ5, fp6, s5.trans s6, e2⟩⟩
          · rename_i ρ5 h5
            exact ⟨F3, ρ4, fp4, _, s4.env, h5, fun σ6 H6 F6 fp6 s6 => ⟨F6, ρ5, fp6, s5.trans s6, e2⟩⟩
          · rename_i ρ5 h5
            cases e2
            exact ⟨F3, ρ4, fp4, _, s4.env, h5, fun σ6 H6 F6 fp6 s6 => P1 σ6 H6 F6 fp6 (s5.trans s6)⟩
          · rename_i h1' h2' h3'
            refine ⟨F3, ρ4, fp4, _, s4.env, e2, ?_⟩
            cases o with
            | nx ρ5 => exact absurd e2 (h1' ρ5)
            | ct ρ5 => exact absurd e2 (h2' ρ5)
            | bk ρ5 => exact absurd e2 (h3' ρ5)
            | rt t ρ5 => exact fun v A σ6 H6 F6 fp6 s6 n => P1 v A σ6 H6 F6 fp6 (s5.trans s6) (n.back s5)
            | ex c ρ5 => exact fun σ6 H6 F6 fp6 s6 => P1 σ6 H6 F6 fp6 (s5.trans s6)
      · rw [List.drop_length] at e2
        cases (Option.some.inj e2)
        exact P1 σ' H' F' fp' s2
/-! ### while, by fuel -/
def loopW (c : M Bool) (body : MS) : Nat → MS
  | 0, _ => none
  | n + 1, ρ => match c ρ with
    | none => none
    | some (.ex k ρ1) => some (.ex k ρ1)
    | some (.ok false ρ1) => some (.nx ρ1)
    | some (.ok true ρ1) => match body ρ1 with
      | some (.nx ρ2) => loopW c body n ρ2
      | some (.ct ρ2) => loopW c body n ρ2
      | some (.bk ρ2) => some (.nx ρ2)
      | o => o
def sWhile (n : Nat) (c : M Bool) (body : MS) : MS := loopW c body n
theorem vs_while {n : Nat} (hp : PassesOwn (model X.prog X.w) X.A X.env X.xe) (hc : VT X T W c fc) (hb : VSs X W body g) : VS X W (.While c body [] pos) (sWhile n fc g) := by
  refine ps_imp (ps_while hp hc hb) fun D σ H ⟨F, ρ, fp, o, E, e, P⟩ => ?_
  refine ⟨fun m σ' H' => ∃ F' ρ' fp', Step X.K F H σ ρ fp F' H' σ' ρ' fp' ∧ loopW fc g m ρ' = some o, ⟨n, F, ρ, fp, .refl E, e⟩, fun m σ' H' ⟨F', ρ', fp', s1, e1⟩ => ?_⟩
  cases m with
  | zero => cases e1
  | succ m =>
    unfold loopW at e1
    cases hf : fc ρ' with
    | none => rw [hf] at e1; cases e1
    | some r =>
      rw [hf] at e1
      cases r with
      | ex k ρ1 =>
        cases e1
        exact ⟨F', ρ', fp', _, s1.env, hf, fun H2 F2 fp2 s2 => P σ' H2 F2 fp2 (s1.trans s2.st)⟩
      | ok b ρ1 =>
        refine ⟨F', ρ', fp', _, s1.env, hf, fun v H2 F2 fp2 s2 r2 => ?_⟩
        have r2 : v = b := r2
        subst r2
        have s3 := s1.trans s2.st
        cases v with
        | false =>
          dsimp only
          rw [if_neg Bool.false_ne_true]
          cases (Option.some.inj e1)
          exact P σ' H2 F2 fp2 s3
        | true =>
          dsimp only
          rw [if_pos rfl]
          refine ⟨fun σ6 H6 => ∃ F6 ρ6 fp6, Step X.K F H σ ρ fp F6 H6 σ6 ρ6 fp6 ∧ loopW fc g m ρ6 = some o, fun σ6 H6 q => ⟨m, Nat.lt_succ_self m, q⟩, ?_⟩
          simp only at e1
          split at e1
          · rename_i ρ5 h5
            exact ⟨F2, ρ1, fp2, _, s2.env, h5, fun σ6 H6 F6 fp6 s6 => ⟨F6, ρ5, fp6, s3.trans s6, e1⟩⟩
          · rename_i ρ5 h5
            exact ⟨F2, ρ1, fp2, _, s2.env, h5, fun σ6 H6 F6 fp6 s6 => ⟨F6, ρ5, fp6, s3.trans s6, e1⟩⟩
          · rename_i ρ5 h5
            cases e1
            exact ⟨F2, ρ1, fp2, _, s2.env, h5, fun σ6 H6 F6 fp6 s6 => P σ6 H6 F6 fp6 (s3.trans s6)⟩
          · rename_i h1' h2' h3'
            refine ⟨F2, ρ1, fp2, _, s2.env, e1, ?_⟩
            cases o with
            | nx ρ5 => exact absurd e1 (h1' ρ5)
            | ct ρ5 => exact absurd e1 (h2' ρ5)
            | bk ρ5 => exact absurd e1 (h3' ρ5)
            | rt t ρ5 => exact fun v A σ6 H6 F6 fp6 s6 n => P v A σ6 H6 F6 fp6 (s3.trans s6) (n.back s3)
            | ex c ρ5 => exact fun σ6 H6 F6 fp6 s6 => P σ6 H6 F6 fp6 (s3.trans s6)
end
end VL

end

section
set_option Elab.async false
set_option linter.all false
set_option maxRecDepth 100000
namespace VL
open PySem PySem.Spec PyProof.Rows L2

/-! ### a def as a function of slots -/
def pinS : Sl → Sl
  | .own .free t => .own .pin t
  | s => s
inductive FR where
  | ret (t : Tr)
  | exc (c : Str)
abbrev Fn := List Sl → Option (FR × List Sl)
def entry (n : Nat) (args : List Sl) : Rho := args.map pinS ++ List.replicate (n - args.length) .no
def runF (n : Nat) (g : MS) : Fn := fun args => match g (entry n args) with
  | some (.nx ρ') => some (.ret (.dat .none), ρ'.take args.length)
  | some (.rt t ρ') => some (.ret t, ρ'.take args.length)
  | some (.ex c ρ') => some (.exc c, ρ'.take args.length)
  | _ => none
/-- behind the call nothing is borrowed; a borrowed tree is handed on locked -/
def Md.unb : Md → Md
  | .bor _ => .pin
  | m => m
def Md.arg : Md → Md
  | .bor _ => .lock
  | m => m
theorem Md.unb_pn : ∀ {m : Md}, m.pn = true → m.unb = .pin
  | .pin, _ => rfl
  | .bor _, _ => rfl
def mrg1 (a : Sl) (o : Option Sl) : Sl := match a, o with
  | .own _ _, some (.own m t) => .own m.unb t
  | .own _ _, some o => o
  | a, _ => a
def mrg : List Sl → List Sl → List Sl
  | [], _ => []
  | a :: as, os => mrg1 a os.head? :: mrg as os.tail
theorem mrg_get : ∀ {as os : List Sl} {i : Nat} {a : Sl}, as[i]? = some a → (mrg as os)[i]? = some (mrg1 a os[i]?)
  | [], _, _, _, h => by simp at h
  | b :: as, os, 0, a, h => by
    simp at h; subst h
    cases os <;> rfl
  | b :: as, os, i + 1, a, h => by
    have := mrg_get (as := as) (os := os.tail) (i := i) (a := a) (by simpa using h)
    show (mrg as os.tail)[i]? = _
    rw [this]
    cases os <;> simp
theorem mrg_len : ∀ {as os : List Sl}, (mrg as os).length = as.length
  | [], _ => rfl
  | _ :: as, os => by simp [mrg, mrg_len (as := as)]
abbrev WX0 := Str → XK → Hp → Prop
def FPst (K : Fg) (Wx : WX0) (F H : Hp) (vs : List V) (args : List Sl) (fp : FP) (outs : List Sl) (Q : VK) (E : XK) : FR → Prop
  | .ret t => ∀ v A H' F' fp', Step K F H (vs.map some) args fp F' H' (vs.map some) (mrg args outs) fp' → NewOk K H fp F' H' fp' v t A → Q v H'
  | .exc c => ∀ H' F' fp', Step K F H (vs.map some) args fp F' H' (vs.map some) (mrg args outs) fp' → Wx c E H'
def spV (K : Fg) (Wx : WX0) (m : Nat) (f : Fn) : Sp := fun vs H Q E => vs.length = m ∧ ∃ F args fp r outs, EnvOk K F H (vs.map some) args fp ∧ f args = some (r, outs) ∧ FPst K Wx F H vs args fp outs Q E r
section
variable {K : Fg}
theorem slOk_pin {F H : Hp} {v : Option V} {A : List Addr} : ∀ {s : Sl}, SlOk K F H v A s → SlOk K F H v A (pinS s)
  | .no, h => h
  | .val _, h => h
  | .own .free _, h => h
  | .own .pin _, h => h
  | .own .lock _, h => h
  | .own (.bor _) _, h => h
  | .al _ _, h => h
theorem pin_own {s : Sl} (h : isOwn (pinS s) = false) : isOwn s = false := by
  cases s with
  | own m t => cases m <;> exact h
  | _ => rfl
theorem entry_env {F H : Hp} {vs : List V} {args : List Sl} {fp : FP} {n : Nat} (E : EnvOk K F H (vs.map some) args fp) : EnvOk K F H (vs.map some ++ List.replicate (n - vs.length) none) (entry n args) fp := by
  have hl : vs.length = args.length := by have := E.len; rwa [List.length_map] at this
  have sgE : ∀ i, i < args.length → sg (vs.map some ++ List.replicate (n - vs.length) none) i = sg (vs.map some) i := fun i hi => by
    unfold sg
    rw [List.getElem?_append_left (by simpa [hl] using hi)]
  have back : ∀ (i : Nat) s, (entry n args)[i]? = some s → s ≠ .no → ∃ a, args[i]? = some a ∧ s = pinS a := fun i s h hs => by
    unfold entry at h
    by_cases hi : i < args.length
    · rw [List.getElem?_append_left (by simpa using hi), List.getElem?_map, List.getElem?_eq_getElem hi] at h
      cases h
      exact ⟨_, List.getElem?_eq_getElem hi, rfl⟩
    · rw [List.getElem?_append_right (by simpa using hi), List.getElem?_replicate] at h
      split at h
      · cases h; exact absurd rfl hs
      · cases h
  refine ⟨E.sub, by unfold entry; simp [hl], fun i s h => ?_, fun i h => ?_, E.nd, E.ap, E.tb, E.al' (fun j k p h => ?_) fun k p t h => ?_⟩
  rotate_left 2
  · obtain ⟨a, h1, h2⟩ := back j _ h (fun z => nomatch z)
    have e : a = .al k p := by
      cases a with
      | al _ _ => exact h2.symm
      | own m t => cases m <;> cases h2
      | _ => cases h2
    subst e
    exact ⟨h1, sgE j (List.getElem?_eq_some_iff.mp h1).1⟩
  · obtain ⟨a, h1, h2⟩ := back k _ h (fun z => nomatch z)
    have e : a = .own (.bor p) t := by
      cases a with
      | own m t => cases m <;> cases h2; rfl
      | _ => cases h2
    subst e
    exact ⟨h1, sgE k (List.getElem?_eq_some_iff.mp h1).1, fun _ _ => rfl⟩
  · unfold entry at h
    by_cases hi : i < args.length
    · rw [List.getElem?_append_left (by simpa using hi), List.getElem?_map, List.getElem?_eq_getElem hi] at h
      cases h
      refine slOk_pin ?_
      have q := E.sl i _ (List.getElem?_eq_getElem hi)
      have e : sg (vs.map some ++ List.replicate (n - vs.length) none) i = sg (vs.map some) i := by
        unfold sg
        rw [List.getElem?_append_left (by simpa [hl] using hi)]
      rw [e]
      exact q
    · rw [List.getElem?_append_right (by simpa using hi), List.getElem?_replicate] at h
      split at h
      · cases h; trivial
      · cases h
  · refine E.nil i fun m t z => ?_
    have hi : i < args.length := (List.getElem?_eq_some_iff.mp z).1
    have q : (entry n args)[i]? = some (pinS (.own m t)) := by
      unfold entry
      rw [List.getElem?_append_left (by simpa using hi), List.getElem?_map, z]
      rfl
    cases m with
    | free => exact h _ _ q
    | pin => exact h _ _ q
    | lock => exact h _ _ q
    | bor _ => exact h _ _ q
def isOwnAt (args : List Sl) (i : Nat) : Bool := match args[i]? with
  | some (.own _ _) => true
  | _ => false
theorem exit_step {F H F' H' : Hp} {vs : List V} {args : List Sl} {fp fp' : FP} {n : Nat} {σ' : Sg} {ρ' : Rho} (E : EnvOk K F H (vs.map some) args fp)
    (s : Step K F H (vs.map some ++ List.replicate (n - vs.length) none) (entry n args) fp F' H' σ' ρ' fp') :
    Step K F H (vs.map some) args fp F' H' (vs.map some) (mrg args (ρ'.take args.length)) (fun i => if isOwnAt args i then fp' i else []) := by
  have hl : vs.length = args.length := by have := E.len; rwa [List.length_map] at this
  have key : ∀ (i : Nat) m t, args[i]? = some (Sl.own m t) → ∃ m' t', (mrg args (ρ'.take args.length))[i]? = some (Sl.own m'.unb t') ∧ ρ'[i]? = some (Sl.own m' t') ∧ sg σ' i = sg (vs.map some) i ∧
      (m = .lock → m' = .lock ∧ t' = t ∧ fp' i = fp i ∧ ∀ b ∈ fp i, H' b = H b) ∧ (m.pn = true → m'.pn = true) := by
    intro i m t h
    have hi : i < args.length := (List.getElem?_eq_some_iff.mp h).1
    have e : sg (vs.map some ++ List.replicate (n - vs.length) none) i = sg (vs.map some) i := by
      unfold sg
      rw [List.getElem?_append_left (by simpa [hl] using hi)]
    have q : (entry n args)[i]? = some (pinS (.own m t)) := by
      unfold entry
      rw [List.getElem?_append_left (by simpa using hi), List.getElem?_map, h]
      rfl
    have tk : (ρ'.take args.length)[i]? = ρ'[i]? := List.getElem?_take_of_lt hi
    cases m with
    | free =>
      obtain ⟨a, m', t', b, k⟩ := s.pin i _ t q rfl
      refine ⟨m', t', by rw [mrg_get h, tk, b]; rfl, b, a.trans e, (fun z => nomatch z), (fun z => nomatch z)⟩
    | pin =>
      obtain ⟨a, m', t', b, k⟩ := s.pin i _ t q rfl
      refine ⟨m', t', by rw [mrg_get h, tk, b]; rfl, b, a.trans e, (fun z => nomatch z), (fun _ => k)⟩
    | bor p =>
      obtain ⟨a, m', t', b, k⟩ := s.pin i _ t q rfl
      refine ⟨m', t', by rw [mrg_get h, tk, b]; rfl, b, a.trans e, (fun z => nomatch z), (fun _ => k)⟩
    | lock =>
      obtain ⟨a, b, c, d⟩ := s.lock i t q
      refine ⟨.lock, t, by rw [mrg_get h, tk, b]; rfl, b, a.trans e, (fun _ => ⟨rfl, rfl, c, d⟩), (fun z => nomatch z)⟩
  have ow : ∀ {b}, Owns (fun i => if isOwnAt args i then fp' i else []) b → Owns fp' b := fun {b} ⟨i, h⟩ => by
    dsimp only at h
    split at h
    · exact ⟨i, h⟩
    · cases h
  refine ⟨⟨s.env.sub, by rw [mrg_len]; exact E.len, fun i u hu => ?_, fun i hi => ?_, fun i => ?_, fun i j b h1 h2 => ?_, s.env.tb, fun j i p t h1 h2 => ?_⟩, s.fr, s.nf, s.dom, s.frame, fun b hb => s.own b (ow hb), fun i m t h hm => ?_, fun i t h => ?_⟩
  rotate_left 4
  · exfalso
    cases ha : args[i]? with
    | none =>
      have := (List.getElem?_eq_some_iff.mp h2).1
      rw [mrg_len] at this
      rw [List.getElem?_eq_none_iff] at ha
      omega
    | some a =>
      cases a with
      | own m t0 =>
        obtain ⟨m', t', e1, _⟩ := key i m t0 ha
        rw [e1] at h2
        cases m' <;> cases h2
      | no => rw [mrg_get ha] at h2; cases h2
      | val d => rw [mrg_get ha] at h2; cases h2
      | al _ _ => rw [mrg_get ha] at h2; cases h2
  · obtain ⟨m', t', e1, _, _, _, e5⟩ := key i _ t h
    refine ⟨rfl, _, t', e1, ?_⟩
    rw [Md.unb_pn (e5 hm)]
    rfl
  · obtain ⟨m', t', e1, _, _, e4, _⟩ := key i _ t h
    obtain ⟨rfl, rfl, e5, e6⟩ := e4 rfl
    have hy : isOwnAt args i = true := by unfold isOwnAt; rw [h]
    refine ⟨rfl, e1, ?_, e6⟩
    simp only [hy, if_true]
    exact e5
  · have hi : i < args.length := by
      have := (List.getElem?_eq_some_iff.mp hu).1
      rwa [mrg_len] at this
    cases ha : args[i]? with
    | none => rw [List.getElem?_eq_none_iff] at ha; omega
    | some a =>
      cases a with
      | own m t =>
        obtain ⟨m', t', e1, e2, e3, _⟩ := key i m t ha
        rw [e1] at hu; cases hu
        have q := s.env.sl i _ e2
        rw [e3] at q
        have q : SlOk K F' H' (sg (vs.map some) i) (fp' i) (.own m'.unb t') := q
        have hy : isOwnAt args i = true := by unfold isOwnAt; rw [ha]
        simp only [hy, if_true]
        exact q
      | no =>
        rw [mrg_get ha] at hu
        cases hu
        trivial
      | al _ _ =>
        rw [mrg_get ha] at hu
        cases hu
        trivial
      | val d =>
        rw [mrg_get ha] at hu
        cases hu
        obtain ⟨v, hv, hd⟩ := E.sl i _ ha
        exact ⟨v, hv, dq_mono s.fr _ _ hd⟩
  · split
    · rename_i hy
      unfold isOwnAt at hy
      split at hy
      · rename_i m t ha
        obtain ⟨m', t', e1, _⟩ := key i m t ha
        exact absurd e1 (hi _ t')
      · cases hy
    · rfl
  · split
    · exact s.env.nd i
    · exact List.nodup_nil
  · split at h1
    · split at h2
      · exact s.env.ap i j b h1 h2
      · cases h2
    · cases h1
end
section
variable {P : Program} {w : World} {K : PySem.W.Frag} {mg : Str → Option Value} {base : Heap}
abbrev W0 : WV := fun _ _ _ => False
abbrev Wx0 : WX0 := fun _ _ _ => False
theorem run_ok {CX : CXT} {x qual : Str} {f : Addr} {N ps : List Str} {sc : Scope} {Wx : WX0} {g : MS} {cdv : Value} {A : Around} {outer : List Env} {s : Shared} {H : Hp} {vs : List V} {Q : VK} {E : XK} (h : spV K Wx ps.length (runF N.length g) vs H Q E) :
    tS K (fun c _ H' => Wx c E H') g { nx := fun _ H' => Q .non H', rt := Q } (start N vs) H := by
  obtain ⟨hl, F, args, fp, r, outs, E0, e, P0⟩ := h
  have hla : vs.length = args.length := by have := E0.len; rwa [List.length_map] at this
  have E1 := entry_env (n := N.length) E0
  unfold runF at e
  cases q : g (entry N.length args) with
  | none => rw [q] at e; cases e
  | some o =>
    rw [q] at e
    refine ⟨F, entry N.length args, fp, o, E1, q, ?_⟩
    cases o with
    | nx ρ' =>
      cases e
      intro σ' H' F' fp' st
      exact P0 .non [] H' F' _ (exit_step E0 st) ⟨.dat .non, List.nodup_nil, (fun b hb => nomatch hb), (fun b hb => nomatch hb)⟩
    | rt t ρ' =>
      cases e
      intro v A' σ' H' F' fp' st n
      refine P0 v A' H' F' _ (exit_step E0 st) ⟨n.ok, n.nd, n.new, fun b hb z => n.out b hb ?_⟩
      obtain ⟨i, h⟩ := z
      dsimp only at h
      split at h
      · exact ⟨i, h⟩
      · cases h
    | ex c ρ' =>
      cases e
      intro σ' H' F' fp' st
      exact P0 H' F' _ (exit_step E0 st)
    | bk ρ' => cases e
    | ct ρ' => cases e
/-- THE RULE for a def that raises nothing -/
theorem fn_ok {x qual : Str} {st : Stmt} {f : Addr} {fd : FuncData} {N ps : List Str} {k : Nat} {g : MS} (F : Fun K x qual st f fd) (S : FnScope N ps (defScope st))
    (hb : ∀ (cdv : Value) (A : Around) (outer : List Env) (s : Shared) (H : Hp) (E : XK), Room k (A.deeper (envOfC qual (defScope st) s.heap.objs.size f cdv)) → VSs (cxOf CX0 P w K mg base N qual (defScope st) f cdv A outer s H E).nox W0 (defBody st) g) :
    FnOk P w K mg base CX0 (k + 1) f fd ps (spV K Wx0 ps.length (runF N.length g)) :=
  F.ok S (fun vs H Q E h => h.1) fun cdv A outer s H vs Q E hr h => ⟨_, hb cdv A outer s H E hr, run_ok (CX := CX0) (x := x) (qual := qual) (f := f) (sc := defScope st) (cdv := cdv) (A := A) (outer := outer) (s := s) h⟩
end

/-- the same where the def's code object is told -/
theorem fn_okC {P : Program} {w : World} {K : PySem.W.Frag} {mg : Str → Option Value} {base : Heap} {x qual : Str} {st : Stmt} {f : Addr} {fd : FuncData} {N ps : List Str} {k : Nat} {g : MS} (F : Fun K x qual st f fd) (S : FnScope N ps (defScope st))
    (hb : ∀ (A : Around) (outer : List Env) (s : Shared) (H : Hp) (E : XK), Room k (A.deeper (envOfC qual (defScope st) s.heap.objs.size f fd.code)) → VSs (cxOf CX0 P w K mg base N qual (defScope st) f fd.code A outer s H E).nox W0 (defBody st) g) :
    FnOk P w K mg base CX0 (k + 1) f fd ps (spV K Wx0 ps.length (runF N.length g)) := by
  obtain ⟨oc, od, kV, doc, pm, an, cdv, ct, osl, rfl, lk, hcd⟩ := F.ex
  refine fn_of lk hcd S (fun vs H Q E h => h.1) fun A outer s H vs Q E hr hsp => ?_
  exact ⟨_, PSs.nox (hb A outer s H E hr), run_ok (CX := CX0) (x := x) (qual := qual) (f := f) (sc := defScope st) (cdv := cdv) (A := A) (outer := outer) (s := s) hsp⟩
/-! ### a call -/
def argSl (ρ : Rho) : Rv → Option Sl
  | .d x => some (.val x)
  | .o i => match ρ[i]? with
    | some (.own m t) => some (.own m.arg t)
    | _ => none
def argSls (ρ : Rho) : List Rv → Option (List Sl)
  | [] => some []
  | r :: rs => match argSl ρ r, argSls ρ rs with
    | some a, some as => some (a :: as)
    | _, _ => none
/-- the place of slot i among the arguments -/
def posOf : List Rv → Nat → Option Nat
  | [], _ => none
  | .o j :: rs, i => if j = i then some 0 else (posOf rs i).map (· + 1)
  | .d _ :: rs, i => (posOf rs i).map (· + 1)
/-- no slot twice -/
def oneEach : List Rv → Bool
  | [] => true
  | .o j :: rs => (posOf rs j).isNone && oneEach rs
  | .d _ :: rs => oneEach rs
def allIn (Ts : List Nat) : List Rv → Bool
  | [] => true
  | .o j :: rs => Ts.contains j && allIn Ts rs
  | .d _ :: rs => allIn Ts rs
def wb1 (s : Sl) (o : Option Sl) : Sl := match s, o with
  | .own m _, some (.own _ t) => .own m t
  | s, _ => s
def wbGo (rs : List Rv) (os : List Sl) : Nat → Rho → Rho
  | _, [] => []
  | i, s :: ρ => (match posOf rs i with
    | some k => wb1 s os[k]?
    | none => s) :: wbGo rs os (i + 1) ρ
def wb (ρ : Rho) (rs : List Rv) (os : List Sl) : Rho := wbGo rs os 0 ρ
theorem wbGo_get {rs : List Rv} {os : List Sl} : ∀ {ρ : Rho} {j i : Nat}, (wbGo rs os j ρ)[i]? = (ρ[i]?).map fun s => match posOf rs (j + i) with
    | some k => wb1 s os[k]?
    | none => s
  | [], j, i => by simp [wbGo]
  | s :: ρ, j, 0 => by simp [wbGo]
  | s :: ρ, j, i + 1 => by
    have := wbGo_get (rs := rs) (os := os) (ρ := ρ) (j := j + 1) (i := i)
    show (wbGo rs os (j + 1) ρ)[i]? = _
    rw [this, show j + 1 + i = j + (i + 1) by omega]
    simp
theorem wb_get {rs : List Rv} {os : List Sl} {ρ : Rho} {i : Nat} : (wb ρ rs os)[i]? = (ρ[i]?).map fun s => match posOf rs i with
    | some k => wb1 s os[k]?
    | none => s := by
  have := wbGo_get (rs := rs) (os := os) (ρ := ρ) (j := 0) (i := i)
  rw [Nat.zero_add] at this
  exact this
theorem wbGo_len {rs : List Rv} {os : List Sl} : ∀ {ρ : Rho} {j : Nat}, (wbGo rs os j ρ).length = ρ.length
  | [], _ => rfl
  | _ :: ρ, j => by simp [wbGo, wbGo_len (ρ := ρ)]
theorem posOf_get : ∀ {rs : List Rv} {i k : Nat}, posOf rs i = some k → rs[k]? = some (.o i)
  | [], _, _, h => by simp [posOf] at h
  | .o j :: rs, i, k, h => by
    simp only [posOf] at h
    split at h
    · rename_i e; cases h; subst e; rfl
    · obtain ⟨a, h1, rfl⟩ := map_some h
      simpa using posOf_get h1
  | .d _ :: rs, i, k, h => by
    simp only [posOf] at h
    obtain ⟨a, h1, rfl⟩ := map_some h
    simpa using posOf_get h1
theorem posOf_of : ∀ {rs : List Rv} {i k : Nat}, oneEach rs = true → rs[k]? = some (.o i) → posOf rs i = some k
  | [], _, _, _, h => by simp at h
  | .o j :: rs, i, 0, _, h => by
    simp at h; subst h
    simp [posOf]
  | .o j :: rs, i, k + 1, o, h => by
    simp only [oneEach, Bool.and_eq_true] at o
    have q := posOf_of (k := k) o.2 (by simpa using h)
    have hj : j ≠ i := fun e => by
      subst e
      rw [q] at o
      exact absurd o.1 (by simp)
    simp only [posOf, if_neg hj, q]
    rfl
  | .d _ :: rs, i, 0, _, h => by simp at h
  | .d _ :: rs, i, k + 1, o, h => by
    simp only [oneEach] at o
    have q := posOf_of (k := k) o (by simpa using h)
    simp only [posOf, q]
    rfl
theorem allIn_of {Ts : List Nat} : ∀ {rs : List Rv} {i k : Nat}, allIn Ts rs = true → rs[k]? = some (.o i) → i ∈ Ts
  | [], _, _, _, h => by simp at h
  | .o j :: rs, i, 0, a, h => by
    simp at h; subst h
    simp only [allIn, Bool.and_eq_true] at a
    exact List.contains_iff_mem.mp a.1
  | .o j :: rs, i, k + 1, a, h => by
    simp only [allIn, Bool.and_eq_true] at a
    exact allIn_of (k := k) a.2 (by simpa using h)
  | .d _ :: rs, i, 0, _, h => by simp at h
  | .d _ :: rs, i, k + 1, a, h => by
    simp only [allIn] at a
    exact allIn_of (k := k) a (by simpa using h)
theorem argSls_len {ρ : Rho} : ∀ {rs : List Rv} {as : List Sl}, argSls ρ rs = some as → as.length = rs.length
  | [], _, e => by simp only [argSls] at e; cases e; rfl
  | r :: rs, _, e => by
    simp only [argSls] at e
    split at e
    · rename_i a as h1 h2
      cases e
      simp [argSls_len h2]
    · cases e
theorem argSls_get {ρ : Rho} : ∀ {rs : List Rv} {as : List Sl} {k : Nat} {r : Rv}, argSls ρ rs = some as → rs[k]? = some r → ∃ a, as[k]? = some a ∧ argSl ρ r = some a
  | [], _, _, _, _, h => by simp at h
  | r0 :: rs, _, k, r, e, h => by
    simp only [argSls] at e
    split at e
    · rename_i a as h1 h2
      cases e
      cases k with
      | zero => simp at h; subst h; exact ⟨a, rfl, h1⟩
      | succ k =>
        obtain ⟨b, h3, h4⟩ := argSls_get (k := k) h2 (by simpa using h)
        exact ⟨b, by simpa using h3, h4⟩
    · cases e
theorem rvs_get {K : Fg} {F : Hp} {σ : Sg} {ρ : Rho} : ∀ {vs : List V} {rs : List Rv} {k : Nat} {r : Rv}, RvsOk K F σ ρ vs rs → rs[k]? = some r → ∃ v, vs[k]? = some v ∧ RvOk K F σ ρ v r
  | _, _, _, _, .nil, h => by simp at h
  | _, _, 0, _, .cons a _, h => by simp at h; subst h; exact ⟨_, rfl, a⟩
  | _, _, k + 1, _, .cons _ t, h => by
    obtain ⟨v, h1, h2⟩ := rvs_get (k := k) t (by simpa using h)
    exact ⟨v, by simpa using h1, h2⟩
theorem rvs_len {K : Fg} {F : Hp} {σ : Sg} {ρ : Rho} : ∀ {vs : List V} {rs : List Rv}, RvsOk K F σ ρ vs rs → vs.length = rs.length
  | _, _, .nil => rfl
  | _, _, .cons _ t => by simp [rvs_len t]
def fpArgs (rs : List Rv) (fp : FP) : FP := fun k => match rs[k]? with
  | some (.o i) => fp i
  | _ => []
theorem sg_map {vs : List V} {k : Nat} {v : V} (h : vs[k]? = some v) : sg (vs.map some) k = some v := by
  unfold sg
  rw [List.getElem?_map, h]
  rfl
section
variable {K : Fg} {F H : Hp} {σ : Sg} {ρ : Rho} {fp : FP} {vs : List V} {rs : List Rv} {args : List Sl}
theorem mem_fpArgs {k : Nat} {b : Addr} (h : b ∈ fpArgs rs fp k) : ∃ i, rs[k]? = some (.o i) ∧ b ∈ fp i := by
  unfold fpArgs at h
  split at h
  · rename_i i hi; exact ⟨i, hi, h⟩
  · cases h
theorem args_env (E : EnvOk K F H σ ρ fp) (r : RvsOk K F σ ρ vs rs) (ha : argSls ρ rs = some args) (ho : oneEach rs = true) : EnvOk K F H (vs.map some) args (fpArgs rs fp) := by
  have hl := argSls_len ha
  have hv := rvs_len r
  refine ⟨E.sub, by rw [List.length_map]; omega, fun k s hs => ?_, fun k hk => ?_, fun k => ?_, fun k l b h1 h2 => ?_, E.tb, fun j i p t h1 h2 => ?_⟩
  rotate_left 4
  · exfalso
    have hj : j < rs.length := by have := (List.getElem?_eq_some_iff.mp h1).1; omega
    obtain ⟨a, g1, g2⟩ := argSls_get ha (List.getElem?_eq_getElem hj)
    rw [h1] at g1; cases g1
    cases hr : rs[j] with
    | d x => rw [hr] at g2; simp only [argSl] at g2; cases g2
    | o i => rw [hr] at g2; simp only [argSl] at g2; split at g2 <;> cases g2
  · have hk : k < rs.length := by have := (List.getElem?_eq_some_iff.mp hs).1; omega
    obtain ⟨a, h1, h2⟩ := argSls_get ha (List.getElem?_eq_getElem hk)
    rw [h1] at hs; cases hs
    obtain ⟨v, h3, h4⟩ := rvs_get r (List.getElem?_eq_getElem hk)
    rw [sg_map h3]
    unfold fpArgs
    rw [List.getElem?_eq_getElem hk]
    cases hr : rs[k] with
    | d x =>
      rw [hr] at h2 h4
      simp only [argSl] at h2
      cases h2
      exact ⟨v, rfl, h4⟩
    | o i =>
      rw [hr] at h2 h4
      obtain ⟨hu, m, t, e⟩ := h4
      simp only [argSl, e] at h2
      cases h2
      obtain ⟨u, e1, e2⟩ := E.sl i _ e
      rw [hu] at e1; cases e1
      exact ⟨v, rfl, e2⟩
  · unfold fpArgs
    split
    · rename_i i hi
      exfalso
      obtain ⟨a, h1, h2⟩ := argSls_get ha hi
      simp only [argSl] at h2
      split at h2
      · rename_i m t e
        cases h2
        exact hk _ t h1
      · cases h2
    · rfl
  · unfold fpArgs
    split
    · exact E.nd _
    · exact List.nodup_nil
  · obtain ⟨i, hi, hb⟩ := mem_fpArgs h1
    obtain ⟨j, hj, hb'⟩ := mem_fpArgs h2
    have e := E.ap i j b hb hb'
    subst e
    have a := posOf_of ho hi
    have c := posOf_of ho hj
    rw [a] at c
    exact Option.some.inj c
def fpBack (rs : List Rv) (fp fpA : FP) : FP := fun i => match posOf rs i with
  | some k => fpA k
  | none => fp i
theorem call_step {F' H' : Hp} {fpA : FP} {os : List Sl} {Ts : List Nat} (E : EnvOk K F H σ ρ fp) (r : RvsOk K F σ ρ vs rs) (ha : argSls ρ rs = some args) (ho : oneEach rs = true) (hT : allIn Ts rs = true)
    (s : Step K F H (vs.map some) args (fpArgs rs fp) F' H' (vs.map some) os fpA) (hos : ∀ (k : Nat) m t, args[k]? = some (Sl.own m t) → ∃ m' t', os[k]? = some (Sl.own m' t')) :
    EStep K Ts F H σ ρ fp F' H' (wb ρ rs os) (fpBack rs fp fpA) := by
  have oA : ∀ {b}, Owns (fpArgs rs fp) b → Owns fp b := fun {b} ⟨k, h⟩ => let ⟨i, _, hb⟩ := mem_fpArgs h; ⟨i, hb⟩
  -- at a slot that is handed in
  have inn : ∀ (i k : Nat), posOf rs i = some k → ∃ m t v m' t', ρ[i]? = some (Sl.own m t) ∧ sg σ i = some v ∧ vs[k]? = some v ∧ args[k]? = some (Sl.own m.arg t) ∧ os[k]? = some (Sl.own m' t') ∧ (wb ρ rs os)[i]? = some (Sl.own m t') ∧ TrOk K F' H' v t' (fpA k) := by
    intro i k hp
    have hk := posOf_get hp
    obtain ⟨v, h1, hu, m, t, e⟩ := rvs_get r hk
    obtain ⟨a, h2, h3⟩ := argSls_get ha hk
    simp only [argSl, e] at h3
    cases h3
    obtain ⟨m', t', h4⟩ := hos k _ t h2
    obtain ⟨u, e1, e2⟩ := s.env.sl k _ h4
    rw [sg_map h1] at e1; cases e1
    refine ⟨m, t, v, m', t', e, hu, h1, h2, h4, ?_, e2⟩
    rw [wb_get, e]
    simp only [Option.map_some, hp, h4, wb1]
  have outT : ∀ (i : Nat), posOf rs i = none → ∀ b ∈ fp i, H' b = H b ∧ F' b = none := by
    intro i hp b hb
    have hn : ¬ Owns (fpArgs rs fp) b := fun ⟨k, h⟩ => by
      obtain ⟨j, hj, hb'⟩ := mem_fpArgs h
      have e := E.ap i j b hb hb'
      subst e
      rw [posOf_of ho hj] at hp
      cases hp
    obtain ⟨h1, h2⟩ := E.there ⟨i, hb⟩
    constructor
    · cases q : H b with
      | none => exact absurd q h1
      | some o => exact s.frame b o q hn fun ps z => E.ntb ⟨i, hb⟩ ps (z ▸ q)
    · cases q : F' b with
      | none => rfl
      | some o =>
        rcases s.nf b h2 (by rw [q]; exact fun z => nomatch z) with z | z | z
        · exact absurd z h1
        · exact absurd z hn
        · exact absurd z (E.nkt ⟨i, hb⟩)
  have get0 : ∀ (i : Nat), posOf rs i = none → (wb ρ rs os)[i]? = ρ[i]? := by
    intro i hp
    rw [wb_get]
    cases ρ[i]? with
    | none => rfl
    | some x => simp [hp]
  refine ⟨⟨⟨s.env.sub, ?_, fun i u hu => ?_, fun i hi => ?_, fun i => ?_, fun i j b h1 h2 => ?_, s.env.tb, E.al' (fun j i p h => ?_) fun i p t h => ?_⟩, s.fr, fun b h h' => (s.nf b h h').imp_right (Or.imp_left oA), s.dom, fun b o h n => s.frame b o h (fun z => n (oA z)), fun b hb => ?_, fun i m t h hm => ?_, fun i t h => ?_⟩, fun i m t h => ?_, fun i hi => ?_⟩
  rotate_left 5
  · cases hp : posOf rs j with
    | some k =>
      obtain ⟨m, t, v, m', t', e1, e2, e3, e4, e5, e6, e7⟩ := inn j k hp
      rw [e6] at h; cases h
    | none => rw [get0 j hp] at h; exact ⟨h, rfl⟩
  · cases hp : posOf rs i with
    | some k =>
      obtain ⟨m, t0, v, m', t', e1, e2, e3, e4, e5, e6, e7⟩ := inn i k hp
      rw [e6] at h; cases h
      obtain ⟨_, l1, l2, l3⟩ := s.lock k t0 e4
      rw [l1] at e5; cases e5
      have ek : fpArgs rs fp k = fp i := by unfold fpArgs; rw [posOf_get hp]
      exact ⟨e1, rfl, fun b hb => l3 b (by rw [ek]; exact hb)⟩
    | none => rw [get0 i hp] at h; exact ⟨h, rfl, fun b hb => (outT i hp b hb).1⟩
  rotate_right 5
  · unfold wb; rw [wbGo_len]; exact E.len
  · cases hp : posOf rs i with
    | some k =>
      obtain ⟨m, t, v, m', t', e1, e2, e3, e4, e5, e6, e7⟩ := inn i k hp
      rw [e6] at hu; cases hu
      unfold fpBack
      rw [hp, e2]
      exact ⟨v, rfl, e7⟩
    | none =>
      rw [get0 i hp] at hu
      unfold fpBack
      rw [hp]
      have q := E.sl i u hu
      cases u with
      | no => trivial
      | al _ _ => trivial
      | val d => obtain ⟨v, e1, e2⟩ := q; exact ⟨v, e1, dq_mono s.fr _ _ e2⟩
      | own m t => obtain ⟨v, e1, e2⟩ := q; exact ⟨v, e1, e2.move s.fr (outT i hp)⟩
  · unfold fpBack
    cases hp : posOf rs i with
    | some k =>
      obtain ⟨m, t, v, m', t', e1, e2, e3, e4, e5, e6, e7⟩ := inn i k hp
      exact absurd e6 (hi m t')
    | none =>
      refine E.nil i fun m t z => hi m t ?_
      rw [get0 i hp]; exact z
  · unfold fpBack
    split
    · exact s.env.nd _
    · exact E.nd i
  · have cross : ∀ (i j k : Nat), posOf rs i = some k → posOf rs j = none → b ∈ fpA k → b ∈ fp j → False := by
      intro i j k hi hj h1 h2
      rcases s.own b ⟨k, h1⟩ with ⟨l, z⟩ | z
      · obtain ⟨i', hi', hb'⟩ := mem_fpArgs z
        have e := E.ap j i' b h2 hb'
        subst e
        rw [posOf_of ho hi'] at hj
        cases hj
      · exact (E.there ⟨j, h2⟩).1 z
    unfold fpBack at h1 h2
    cases hi : posOf rs i with
    | some k =>
      rw [hi] at h1
      cases hj : posOf rs j with
      | some l =>
        rw [hj] at h2
        have e := s.env.ap k l b h1 h2
        subst e
        have a := posOf_get hi
        have c := posOf_get hj
        rw [a] at c
        cases c
        rfl
      | none => rw [hj] at h2; exact (cross i j k hi hj h1 h2).elim
    | none =>
      rw [hi] at h1
      cases hj : posOf rs j with
      | some l => rw [hj] at h2; exact (cross j i l hj hi h2 h1).elim
      | none => rw [hj] at h2; exact E.ap i j b h1 h2
  · obtain ⟨i, h⟩ := hb
    unfold fpBack at h
    cases hi : posOf rs i with
    | some k => rw [hi] at h; exact (s.own b ⟨k, h⟩).imp_left oA
    | none => rw [hi] at h; exact .inl ⟨i, h⟩
  · cases hp : posOf rs i with
    | some k =>
      obtain ⟨m0, t0, v, m', t', e1, e2, e3, e4, e5, e6, e7⟩ := inn i k hp
      rw [h] at e1; cases e1
      exact ⟨rfl, _, t', e6, hm⟩
    | none => exact ⟨rfl, m, t, by rw [get0 i hp]; exact h, hm⟩
  · cases hp : posOf rs i with
    | some k =>
      obtain ⟨m, t0, v, m', t', e1, e2, e3, e4, e5, e6, e7⟩ := inn i k hp
      rw [h] at e1; cases e1
      obtain ⟨_, l1, l2, l3⟩ := s.lock k t e4
      rw [l1] at e5; cases e5
      have ek : fpArgs rs fp k = fp i := by unfold fpArgs; rw [posOf_get hp]
      refine ⟨rfl, e6, ?_, fun b hb => l3 b (by rw [ek]; exact hb)⟩
      unfold fpBack
      rw [hp]
      exact l2.trans ek
    | none =>
      refine ⟨rfl, by rw [get0 i hp]; exact h, ?_, fun b hb => (outT i hp b hb).1⟩
      unfold fpBack
      rw [hp]
  · cases hp : posOf rs i with
    | some k =>
      obtain ⟨m0, t0, v, m', t', e1, e2, e3, e4, e5, e6, e7⟩ := inn i k hp
      rw [h] at e1; cases e1
      exact ⟨t', e6⟩
    | none => exact ⟨t, by rw [get0 i hp]; exact h⟩
  · cases hp : posOf rs i with
    | some k => exact absurd (allIn_of hT (posOf_get hp)) hi
    | none =>
      refine ⟨get0 i hp, ?_, fun b hb => (outT i hp b hb).1⟩
      unfold fpBack
      rw [hp]
theorem call_new {F' H' : Hp} {fpA : FP} {v : V} {t : Tr} {A : List Addr} (E : EnvOk K F H σ ρ fp) (ho : oneEach rs = true) (n : NewOk K H (fpArgs rs fp) F' H' fpA v t A) : NewOk K H fp F' H' (fpBack rs fp fpA) v t A := by
  refine ⟨n.ok, n.nd, fun b hb => (n.new b hb).imp_right fun ⟨k, h⟩ => let ⟨i, _, z⟩ := mem_fpArgs h; ⟨i, z⟩, fun b hb z => ?_⟩
  obtain ⟨i, h⟩ := z
  unfold fpBack at h
  cases hp : posOf rs i with
  | some k => rw [hp] at h; exact n.out b hb ⟨k, h⟩
  | none =>
    rw [hp] at h
    rcases n.new b hb with z | ⟨k, z⟩
    · exact (E.there ⟨i, h⟩).1 z
    · obtain ⟨j, hj, hb'⟩ := mem_fpArgs z
      have e := E.ap i j b h hb'
      subst e
      rw [posOf_of ho hj] at hp
      cases hp
end
/-- every owned argument comes back owned -/
def backOk : List Sl → List Sl → Bool
  | [], _ => true
  | .own _ _ :: as, .own _ _ :: os => backOk as os
  | .own _ _ :: _, _ => false
  | _ :: as, _ :: os => backOk as os
  | _ :: _, [] => false
theorem backOk_get : ∀ {as os : List Sl} {k : Nat} {m : Md} {t : Tr}, backOk as os = true → as[k]? = some (.own m t) → ∃ m' t', os[k]? = some (.own m' t')
  | [], _, _, _, _, _, h => by simp at h
  | .own m0 t0 :: as, .own m1 t1 :: os, 0, _, _, _, _ => ⟨m1, t1, rfl⟩
  | .own m0 t0 :: as, .own m1 t1 :: os, k + 1, _, _, b, h => by
    simp only [backOk] at b
    obtain ⟨m', t', e⟩ := backOk_get (k := k) b (by simpa using h)
    exact ⟨m', t', by simpa using e⟩
  | .own _ _ :: _, .no :: _, _, _, _, b, _ => by simp [backOk] at b
  | .own _ _ :: _, .val _ :: _, _, _, _, b, _ => by simp [backOk] at b
  | .own _ _ :: _, .al _ _ :: _, _, _, _, b, _ => by simp [backOk] at b
  | .own _ _ :: _, [], _, _, _, b, _ => by simp [backOk] at b
  | .al _ _ :: as, o :: os, 0, _, _, _, h => by simp at h
  | .al _ _ :: as, o :: os, k + 1, _, _, b, h => by
    have b' : backOk as os = true := by cases o <;> simpa [backOk] using b
    obtain ⟨m', t', e⟩ := backOk_get (k := k) b' (by simpa using h)
    exact ⟨m', t', by simpa using e⟩
  | .al _ _ :: _, [], _, _, _, b, _ => by simp [backOk] at b
  | .no :: as, o :: os, 0, _, _, _, h => by simp at h
  | .val _ :: as, o :: os, 0, _, _, _, h => by simp at h
  | .no :: as, o :: os, k + 1, _, _, b, h => by
    have b' : backOk as os = true := by cases o <;> simpa [backOk] using b
    obtain ⟨m', t', e⟩ := backOk_get (k := k) b' (by simpa using h)
    exact ⟨m', t', by simpa using e⟩
  | .val _ :: as, o :: os, k + 1, _, _, b, h => by
    have b' : backOk as os = true := by cases o <;> simpa [backOk] using b
    obtain ⟨m', t', e⟩ := backOk_get (k := k) b' (by simpa using h)
    exact ⟨m', t', by simpa using e⟩
  | .no :: _, [], _, _, _, b, _ => by simp [backOk] at b
  | .val _ :: _, [], _, _, _, b, _ => by simp [backOk] at b
def callN (Ts : List Nat) (m : Nat) (f : Fn) (rs : List Rv) : M Tr := fun ρ => match argSls ρ rs with
  | some args => if decide (rs.length = m) && (oneEach rs && allIn Ts rs) then (match f args with
    | some (.ret t, outs) => if backOk args (mrg args outs) then some (.ok t (wb ρ rs (mrg args outs))) else none
    | _ => none) else none
  | none => none
def nCall (Ts : List Nat) (m : Nat) (f : Fn) (fs : M (List Rv)) : M Tr := bnd fs (callN Ts m f)
section
variable {X : Cx} {T : List Nat} {W : WV} {k m : Nat} {f : Addr} {fd : FuncData} {ps : List Str} {F : Fn} {x : Str} {p pos : Pos} {e : Expr} {es : List Expr} {fs : M (List Rv)} {Ts : List Nat}
theorem vn_call (G : FnOk X.prog X.w X.K X.mg X.base CX0 k f fd ps (spV X.K Wx0 m F)) (hr : Room k X.A) (hg : Gl X x) (hm : X.mg x = some (.ref f)) (hk : PySem.W.keepIn X.K (.ref f) = true) (hb : Binds X.K fd ps [])
    (ha : VA X T W (e :: es) fs) (hdb : (x == ("__debug__" : Str)) = false := by decide) (he : starEach (e :: es) X.env = (false, eval e X.env) :: starEach es X.env := by rfl) (hpl : (backTo pos (starEach es X.env)).any (·.1) = false := by rfl) :
    VN X (T ++ Ts) W (.Call (.Name x p) (e :: es) [] pos) (nCall Ts m F fs) :=
  pe_imp (pe_call G hr hg hm hk hb .nil pass0 ha hdb he hpl) fun σ H Q ⟨F0, ρ, fp, o, E, q, P⟩ => by
    refine tv_bnd (T := T) E q P (fun i hi => List.mem_append_left _ hi) fun rs ρ1 vs H1 F1 fp1 s1 r1 e1 P1 => ?_
    rw [List.append_nil]
    unfold callN at e1
    split at e1
    · rename_i args hargs
      split at e1
      · rename_i ho
        rw [Bool.and_eq_true, Bool.and_eq_true] at ho
        split at e1
        · rename_i t outs hf
          split at e1
          · rename_i hbk
            cases ok_inj e1
            refine ⟨?_, F1, args, fpArgs rs fp1, _, outs, args_env s1.env r1 hargs ho.2.1, hf, fun v A H' F' fp' st n => ?_⟩
            · rw [rvs_len r1]; exact of_decide_eq_true ho.1
            · have s2 := call_step (Ts := Ts) s1.env r1 hargs ho.2.1 ho.2.2 st fun k m t h => backOk_get hbk h
              exact P1 v H' F' _ (s2.sub fun i hi => List.mem_append_right _ hi) ⟨A, call_new s1.env ho.2.1 n⟩
          · cases e1
        · cases e1
      · cases e1
    · cases e1
theorem vn_call0 (G : FnOk X.prog X.w X.K X.mg X.base CX0 k f fd ps (spV X.K Wx0 0 F)) (hr : Room k X.A) (hg : Gl X x) (hm : X.mg x = some (.ref f)) (hk : PySem.W.keepIn X.K (.ref f) = true) (hb : Binds X.K fd ps [])
    (hdb : (x == ("__debug__" : Str)) = false := by decide) : VN X [] W (.Call (.Name x p) [] [] pos) (nCall [] 0 F aNil) :=
  pe_imp (pe_call0 G hr hg hm hk hb .nil pass0 hdb) fun σ H Q ⟨F0, ρ, fp, o, E, q, P⟩ => by
    have q' : callN [] 0 F [] ρ = some o := q
    unfold callN at q'
    simp only [argSls, oneEach, allIn, List.length_nil, decide_true, Bool.and_self, if_true] at q'
    split at q'
    · rename_i t outs hf
      split at q'
      · rename_i hbk
        cases ok_inj q'
        refine ⟨rfl, F0, [], fpArgs [] fp, _, outs, args_env E .nil rfl rfl, hf, fun v A H' F' fp' st n => ?_⟩
        have s2 := call_step (Ts := []) (rs := []) E .nil rfl rfl rfl st fun k m t h => by simp at h
        exact P v H' F' _ s2 ⟨A, call_new E rfl n⟩
      · cases q'
    · cases q'
end
end VL

end

section
set_option Elab.async false
set_option linter.all false
set_option maxRecDepth 100000
namespace VL
open PySem PySem.Spec PyProof.Rows L2

/-! ### enumerate(tuple) -/
set_option maxHeartbeats 1000000 in
theorem meets_enum1 {v : Value} {o : Obj} {H : Heap → Prop} (B : Begins v o H) :
    Meets (Builtin.«enumerate.__new__» ⟨[.type "enumerate", v], []⟩) (fun _ R s => H s.heap ∧
      R (.ok (.ret (.ref (s.heap.push o).objs.size))) { s with heap := (s.heap.push o).push { cls := .type "enumerate", data := .fields #[.none, .bool false, .ref s.heap.objs.size, rawInt 0, .none, .none] } }) :=
  .of_wp fun prog w A R s h => by
    obtain ⟨hp, g, d, tk, os⟩ := s; obtain ⟨h1, h⟩ := h
    have hsub := sub_enumerate
    have q1 : ∀ {A' : Around} {E : Value → Shared → Prop} {Q : Value → Shared → Prop}, Q (.ref hp.objs.size) ⟨hp.push o, g, d, tk, os⟩ → wpAny (model prog w) A' (pyIter v) Q E ⟨hp, g, d, tk, os⟩ :=
      fun q => B.iter prog w _ _ ⟨hp, g, d, tk, os⟩ _ h1 q
    wp_walk using q1
    refine wpAny_stack_any fun st => wpAny_pure ?_
    split
    · rename_i c _ _ _ _ _
      cases (c == Value.type "enumerate")
      · wp_walk using q1
        exact ⟨_, rfl, h⟩
      · wp_walk using q1
        exact ⟨_, rfl, h⟩
    · wp_walk using q1
      exact ⟨_, rfl, h⟩
theorem enum1_begins {prog : Program} {w : World} {A : Around} {E : Value → Shared → Prop} {s : Shared} {v : Value} {o : Obj} {H : Heap → Prop} {Q : Value → Shared → Prop} (B : Begins v o H) (h1 : H s.heap)
    (h : ∀ h', IsEnum h' (s.heap.objs.size + 1) s.heap.objs.size 0 .none → h'.get? s.heap.objs.size = some o → h'.objs.size = s.heap.objs.size + 2 →
      (∀ b o, s.heap.get? b = some o → h'.get? b = some o) → Q (.ref (s.heap.objs.size + 1)) { s with heap := h' }) :
    wpAny (model prog w) A (call (.type "enumerate") [v]) Q E s := by
  refine callType_new F.called_enumerate (by decide) (F.typeCall_enumerate_1 _) (F.newCall_enumerate_1 _) (fun obj => F.args_object_init_2 obj _) F.entry_enumerate_new
    (meets_enum1 B) ⟨h1, ?_⟩
  have hz : (s.heap.push o).objs.size = s.heap.objs.size + 1 := Heap.size_push ..
  show _ ∧ _
  rw [hz]
  have he : IsEnum ((s.heap.push o).push { cls := .type "enumerate", data := .fields #[.none, .bool false, .ref s.heap.objs.size, rawInt 0, .none, .none] }) (s.heap.objs.size + 1) s.heap.objs.size 0 .none := by
    have := Heap.get?_push_size (s.heap.push o) (o := { cls := .type "enumerate", data := .fields #[.none, .bool false, .ref s.heap.objs.size, rawInt 0, .none, .none] }) rfl
    rw [hz] at this; exact this
  refine ⟨⟨_, he, rfl⟩, h _ he (Heap.get?_push_of_some _ (Heap.get?_push_size _ B.free)) (by rw [Heap.size_push, hz]) fun b o x => Heap.get?_push_of_some _ (Heap.get?_push_of_some _ x)⟩
def IteT (K : PySem.W.Frag) (a : Addr) : It :=
  ⟨fun i H => ∃ (xs : List V) (x : V), SqT K H a xs ∧ xs[i]? = some x, fun i H v H' => ∃ T x, v = .ref T ∧ H T = none ∧ H' = upd H T (.tup [.int (i : Nat), x]) ∧ ∀ xs, SqT K H a xs → xs[i]? = some x, fun i H => ∃ xs : List V, SqT K H a xs ∧ xs.length = i⟩
theorem turn_enumT {P : Program} {w : World} {K : PySem.W.Frag} {elts : List Expr} {kk : Nat} {tpos : Pos} (a e it : Addr) (hae : a ≠ e) (hai : a ≠ it) :
    Turn P w K (.Tuple elts kk tpos) (IteT K a) [e, it] e (fun i h => (∃ old, IsEnum h e it ((i : Nat) : Int) old) ∧ h.IsTupleIter it a i ∧ e ≠ it) where
  mem := by simp
  obj := fun i h st b hb => by
    obtain ⟨⟨old, he⟩, ⟨o, ho, hc, hd⟩, _⟩ := st
    have e' : b = e ∨ b = it := by simpa using hb
    rcases e' with z | z
    · rw [z]; exact ⟨_, he, fun v q => nomatch q⟩
    · rw [z]; exact ⟨o, ho, fun v q => by rw [hd] at q; cases q⟩
  keep := fun i h h' st k => let ⟨⟨old, he⟩, hi, hne⟩ := st; ⟨⟨old, k e (by simp) _ he⟩, hi.at fun o q => k it (by simp) o q, hne⟩
  item := by
    intro X hP hw hK hc i pins s σ H E I hf st hg
    subst hP hw hK
    obtain ⟨⟨old, he⟩, hit, hne⟩ := st
    obtain ⟨xs, x, hq, hx⟩ := hg
    obtain ⟨its, rv, p, hz⟩ := I.tuple hq
    obtain ⟨u, hu, ru⟩ := rv.get hx
    have hel : e < s.heap.objs.size := Heap.lt_size he
    have hil : it < s.heap.objs.size := by obtain ⟨_, q, _⟩ := hit; exact Heap.lt_size q
    have hi : i < its.toArray.size := by
      have := (List.getElem?_eq_some_iff.mp hu).1
      simpa using this
    have D := Draws.tuple (prog := X.prog) (w := X.w) (A := X.A.in1) (I.ok.hd hc) it a hai its.toArray
    refine wpAny_pyNext_enum_itemD D he ⟨hit, p⟩ hi hne (by simp [hne, Ne.symm hae]) fun u' h' tk hP ho hst hT hsz hk => ?_
    have hu' : u' = u := by
      have : its.toArray[i]? = some u := by simpa using hu
      rw [this] at hP
      exact (Option.some.inj hP).symm
    subst hu'
    refine ⟨_, rfl, wpAny_letOwnedTupleGo_enum (s := { s with heap := h', toks := tk + 1 }) ho fun h'' he' sb => ?_⟩
    have hT2 : h''.get? s.heap.objs.size = some { cls := .type "tuple", data := .seq #[.int i tk, u'] } := (sb.2 _ (Nat.ne_of_gt hel)).trans hT
    have new : ObjOk X.prog X.w (upd H s.heap.objs.size (.tup [.int (i : Nat), x])) h'' s.heap.objs.size (.tup [.int (i : Nat), x]) :=
      ⟨by show 2 ≤ sizeLine; decide, [.int i tk, u'], .cons ⟨_, rfl⟩ (.cons ru .nil), ⟨_, hT2, rfl, _, rfl⟩⟩
    have I1 : Inv X pins σ (upd H s.heap.objs.size (.tup [.int (i : Nat), x])) { s with heap := h'', toks := tk + 1 } :=
      I.turnedNew (ch := [e, it]) (fun b ob hb q => (sb.2 b (fun z => hb (by simp [z]))).trans (hk b ob (fun z => hb (by simp [z])) (fun z => hb (by simp [z])) q)) hf (Nat.le_refl _) new
    refine ⟨.ref s.heap.objs.size, _, I1, rfl, ⟨_, x, rfl, I.hok.fresh (Nat.le_refl _), rfl, fun ys hy => by rw [I.tuple_inj hy hq]; exact hx⟩, ⟨⟨u', ?_⟩, hst.1.at fun o q => (sb.2 it (Ne.symm hne)).trans q, hne⟩, fun b hb => ?_⟩
    · have e1 : ((i + 1 : Nat) : Int) = (i : Int) + 1 := by omega
      rw [e1]; exact he'
    · have hb' : b < s.heap.objs.size := by
        have e' : b = e ∨ b = it := by simpa using hb
        rcases e' with z | z
        · rw [z]; exact hel
        · rw [z]; exact hil
      rw [upd_ne (Nat.ne_of_lt hb')]
      exact (hf b hb).1
  done := by
    intro X hP hw hK hc i pins s σ H E I hf st hg
    subst hP hw hK
    obtain ⟨⟨old, he⟩, hit, hne⟩ := st
    obtain ⟨xs, hq, hx⟩ := hg
    obtain ⟨its, rv, p, hz⟩ := I.tuple hq
    obtain ⟨f0, f1, f2, f3, f4, f5⟩ := hf it (by simp)
    have hl := rv.length
    have D := Draws.tuple (prog := X.prog) (w := X.w) (A := X.A.in1) (I.ok.hd hc) it a hai its.toArray
    have hn : its.toArray.size = i := by simp; omega
    exact wpAny_pyNext_enum_endD D he (by rw [hn]; exact ⟨hit, p⟩) fun h' eb => ⟨rfl, I.turned (t' := s.toks) (fun b o hb q => eb b o hb q) f0 f1 f3 f4 f5⟩
  self := fun A i s Q E st h => let ⟨⟨_, he⟩, _⟩ := st; wpAny_pyIter_enum he h
def iEnumT0 (K : PySem.W.Frag) (ta : TA) : TI := fun σ H R => ta σ H fun vs H1 => ∃ a xs, vs = [.ref a] ∧ SqT K H1 a xs ∧ R (IteT K a) H1
theorem pi_enumT {X : Cx} {e : Expr} {ta : TA} {p pos tpos : Pos} {elts : List Expr} {kk : Nat} (hg : Gl X "enumerate") (hm : X.mg "enumerate" = none) (ha : PA X [e] ta) (hs : starEach [e] X.env = [(false, eval e X.env)] := by rfl) :
    PI X (.Tuple elts kk tpos) (.Call (.Name "enumerate" p) [e] [] pos) (iEnumT0 X.K ta) := by
  refine ⟨fun pins s σ H R I h => ?_⟩
  refine Call_ (ld_blt I hg hm boot_enumerate (PyProof.Rows.callWith_type1 (thn (ha.run pos pins s σ H _ I h) fun us s1 ⟨vs, H1, I1, r1, q1⟩ => ?_) hs rfl))
  obtain ⟨a, xs, ex, hq, q⟩ := q1
  subst ex
  cases r1 with
  | cons r rr =>
    cases rr
    cases r
    obtain ⟨its, rv, p', hz⟩ := I1.tuple hq
    refine enum1_begins (begins_tuple a its.toArray) p' fun h' he hit hsz hk => wpAny_pyIter_enum he ?_
    have I2 : Inv X pins σ H1 { s1 with heap := h' } := I1.kept (t' := s1.toks) hk
    have hal : a < s1.heap.objs.size := p'.lt
    refine ⟨s1.heap.objs.size + 1, [s1.heap.objs.size + 1, s1.heap.objs.size], _, _, H1, rfl, I2, turn_enumT a (s1.heap.objs.size + 1) s1.heap.objs.size (Nat.ne_of_lt (Nat.lt_succ_of_lt hal)) (Nat.ne_of_lt hal), ⟨⟨.none, he⟩, ⟨_, hit, rfl, rfl⟩, Nat.succ_ne_self _⟩, fun b hb => ?_, q⟩
    have e' : b = s1.heap.objs.size + 1 ∨ b = s1.heap.objs.size := by simpa using hb
    have hle : s1.heap.objs.size ≤ b := by
      rcases e' with z | z
      · rw [z]; exact Nat.le_add_right _ _
      · rw [z]; exact Nat.le_refl _
    exact I1.fpOk hle (I1.hok.fresh hle)
theorem walk_enumT {K : PySem.W.Frag} {a : Addr} {xs : List V} : Walk (IteT K a) xs.length (fun H => SqT K H a xs) (YPair (fun i => some (.int (i : Nat))) (fun i => xs[i]?)) :=
  ⟨fun i H hi q => ⟨xs, xs[i], q, by simp [hi]⟩, fun H q => ⟨xs, q, rfl⟩, fun i H v H' _ q ⟨T, x, e1, e2, e3, y⟩ => ⟨T, _, x, e1, e2, e3, rfl, y xs q⟩⟩
section
variable {X : Cx} {T : List Nat} {W : WV} {pos : Pos}
/-- enumerate of a list or a tuple -/
def iEnumD (f : M (List Rv)) : M (List PyData) := bnd f fun rs => fun ρ => match rs with
  | [.d (.list xs)] => some (.ok (enumD xs) ρ)
  | [.d (.tuple xs)] => some (.ok (enumD xs) ρ)
  | _ => none
theorem vi_enum {a : Expr} {elts : List Expr} {kk : Nat} {tpos : Pos} {fs : M (List Rv)} {p : Pos} (hg : Gl X "enumerate") (hm : X.mg "enumerate" = none) (ha : VA X T W [a] fs) (hs : starEach [a] X.env = [(false, eval a X.env)] := by rfl) :
    VI X T W (.Tuple elts kk tpos) (.Call (.Name "enumerate" p) [a] [] pos) (iEnumD fs) := by
  refine ⟨_, pi_or (pi_enum hg hm ha hs) (pi_enumT hg hm ha hs), fun σ H R F ρ fp o E q P => ?_⟩
  unfold iEnumD bnd at q
  cases hf : fs ρ with
  | none => rw [hf] at q; cases q
  | some r =>
    rw [hf] at q
    cases r with
    | ex c ρ1 => cases q; exact .inl ⟨F, ρ, fp, _, E, hf, fun H1 F1 fp1 s1 => P H1 F1 fp1 s1⟩
    | ok rs ρ1 =>
      simp only at q
      split at q
      · rename_i xs
        cases q
        refine .inl ⟨F, ρ, fp, _, E, hf, fun vs H1 F1 fp1 s1 r1 => ?_⟩
        cases r1 with
        | cons h t =>
          cases t
          cases h with
          | @lst a0 vs0 _ hs ha =>
            have w0 := walk_enum (K := X.K) (a := a0) (xs := vs0)
            rw [dqAll_len ha, ← enumD_len] at w0
            refine ⟨_, _, rfl, .inl (rd_mono s1.env.sub hs), P _ _ _ H1 F1 fp1 s1 w0 (fun F2 H2 a b => .inl (rd_mono (a.trans b) hs)) fun i F2 H2 x H3 hi a b y => ?_⟩
            obtain ⟨Tn, x1, y1, rfl, hn, e3, hx, hy⟩ := y
            rw [enumD_len] at hi
            obtain ⟨v, hv, dv⟩ := dqAll_get ha (List.getElem?_eq_getElem hi)
            have hy : vs0[i]? = some y1 := hy
            rw [hv] at hy; cases hy
            cases hx
            obtain ⟨F3, g3, d3⟩ := pair_ok (K := X.K) (v := .non) b hn e3 (.int _) (dq_mono a _ _ dv)
            exact ⟨F3, _, enumD_get (List.getElem?_eq_getElem hi), g3, d3⟩
      · rename_i xs
        cases q
        refine .inr ⟨F, ρ, fp, _, E, hf, fun vs H1 F1 fp1 s1 r1 => ?_⟩
        cases r1 with
        | cons h t =>
          cases t
          cases h with
          | @tups a0 vs0 _ hs ha =>
            have w0 := walk_enumT (K := X.K) (a := a0) (xs := vs0)
            rw [dqAll_len ha, ← enumD_len] at w0
            refine ⟨_, _, rfl, (hs.mono s1.env.sub).sq, P _ _ _ H1 F1 fp1 s1 w0 (fun F2 H2 a b => (hs.mono (a.trans b)).sq) fun i F2 H2 x H3 hi a b y => ?_⟩
            obtain ⟨Tn, x1, y1, rfl, hn, e3, hx, hy⟩ := y
            rw [enumD_len] at hi
            obtain ⟨v, hv, dv⟩ := dqAll_get ha (List.getElem?_eq_getElem hi)
            have hy : vs0[i]? = some y1 := hy
            rw [hv] at hy; cases hy
            cases hx
            obtain ⟨F3, g3, d3⟩ := pair_ok (K := X.K) (v := .non) b hn e3 (.int _) (dq_mono a _ _ dv)
            exact ⟨F3, _, enumD_get (List.getElem?_eq_getElem hi), g3, d3⟩
      · cases q
end

/-! ### zip of two lists, or of two tuples -/
theorem walk_zipT {K : PySem.W.Frag} {a b : Addr} {xs ys : List V} {n : Nat} (hn : n = min xs.length ys.length) : Walk (RZ.ItzT K a b) n (fun H => SqT K H a xs ∧ SqT K H b ys) (YPair (fun i => xs[i]?) (fun i => ys[i]?)) :=
  ⟨fun i H hi q => ⟨xs, ys, xs[i]'(by omega), ys[i]'(by omega), q.1, q.2, by simp, by simp⟩, fun H q => ⟨xs, ys, q.1, q.2, by omega⟩, fun i H v H' _ q ⟨T, x, y, e1, e2, e3, y1, y2⟩ => ⟨T, x, y, e1, e2, e3, y1 xs q.1, y2 ys q.2⟩⟩
def zipD (xs ys : List PyData) : List PyData := (xs.zip ys).map fun p => .tuple [p.1, p.2]
theorem zipD_len (xs ys : List PyData) : (zipD xs ys).length = min xs.length ys.length := by unfold zipD; simp
theorem zipD_get {xs ys : List PyData} {i : Nat} {d e : PyData} (h : xs[i]? = some d) (h' : ys[i]? = some e) : (zipD xs ys)[i]? = some (.tuple [d, e]) := by
  unfold zipD
  rw [List.getElem?_map, (List.getElem?_zip_eq_some (z := (d, e))).mpr ⟨h, h'⟩]
  rfl
section
variable {X : Cx} {T : List Nat} {W : WV} {pos : Pos}
def iZipD (f : M (List Rv)) : M (List PyData) := bnd f fun rs => fun ρ => match rs with
  | [.d (.list xs), .d (.list ys)] => some (.ok (zipD xs ys) ρ)
  | [.d (.tuple xs), .d (.tuple ys)] => some (.ok (zipD xs ys) ρ)
  | _ => none
theorem vi_zip {a b : Expr} {elts : List Expr} {kk : Nat} {tpos : Pos} {fs : M (List Rv)} {p : Pos} (hg : Gl X "zip") (hm : X.mg "zip" = none) (ha : VA X T W [a, b] fs) (hs : starEach [a, b] X.env = (false, eval a X.env) :: starEach [b] X.env := by rfl) (hpl : (backTo pos (starEach [b] X.env)).any (·.1) = false := by rfl) :
    VI X T W (.Tuple elts kk tpos) (.Call (.Name "zip" p) [a, b] [] pos) (iZipD fs) := by
  refine ⟨_, RZ.pi_zipA hg hm ha hs hpl, fun σ H R F ρ fp o E q P => ?_⟩
  unfold iZipD bnd at q
  cases hf : fs ρ with
  | none => rw [hf] at q; cases q
  | some r =>
    rw [hf] at q
    cases r with
    | ex c ρ1 => cases q; exact ⟨F, ρ, fp, _, E, hf, fun H1 F1 fp1 s1 => P H1 F1 fp1 s1⟩
    | ok rs ρ1 =>
      refine ⟨F, ρ, fp, _, E, hf, fun vs H1 F1 fp1 s1 r1 => ?_⟩
      simp only at q
      split at q
      · rename_i xs ys
        cases q
        cases r1 with
        | cons h t =>
          cases t with
          | cons h' t =>
            cases t
            cases h with
            | @lst a0 vs0 _ hs ha =>
              cases h' with
              | @lst a1 vs1 _ hs' ha' =>
                have w0 := walk_zip (K := X.K) (a := a0) (b := a1) (xs := vs0) (ys := vs1) rfl
                rw [dqAll_len ha, dqAll_len ha', ← zipD_len] at w0
                refine ⟨_, _, _, _, rfl, .inl ⟨.inl (rd_mono s1.env.sub hs), .inl (rd_mono s1.env.sub hs'), P _ _ _ H1 F1 fp1 s1 w0 (fun F2 H2 a b => ⟨.inl (rd_mono (a.trans b) hs), .inl (rd_mono (a.trans b) hs')⟩) fun i F2 H2 x H3 hi a b y => ?_⟩⟩
                obtain ⟨Tn, x1, y1, rfl, hn, e3, hx, hy⟩ := y
                rw [zipD_len] at hi
                have hx : vs0[i]? = some x1 := hx
                have hy : vs1[i]? = some y1 := hy
                obtain ⟨v, hv, dv⟩ := dqAll_get ha (List.getElem?_eq_getElem (show i < xs.length by omega))
                obtain ⟨v', hv', dv'⟩ := dqAll_get ha' (List.getElem?_eq_getElem (show i < ys.length by omega))
                rw [hv] at hx; cases hx
                rw [hv'] at hy; cases hy
                obtain ⟨F3, g3, d3⟩ := pair_ok (K := X.K) (v := .non) b hn e3 (dq_mono a _ _ dv) (dq_mono a _ _ dv')
                exact ⟨F3, _, zipD_get (List.getElem?_eq_getElem (by omega)) (List.getElem?_eq_getElem (by omega)), g3, d3⟩
      · rename_i xs ys
        cases q
        cases r1 with
        | cons h t =>
          cases t with
          | cons h' t =>
            cases t
            cases h with
            | @tups a0 vs0 _ hs ha =>
              cases h' with
              | @tups a1 vs1 _ hs' ha' =>
                have w0 := walk_zipT (K := X.K) (a := a0) (b := a1) (xs := vs0) (ys := vs1) rfl
                rw [dqAll_len ha, dqAll_len ha', ← zipD_len] at w0
                refine ⟨_, _, _, _, rfl, .inr ⟨(hs.mono s1.env.sub).sq, (hs'.mono s1.env.sub).sq, P _ _ _ H1 F1 fp1 s1 w0 (fun F2 H2 a b => ⟨(hs.mono (a.trans b)).sq, (hs'.mono (a.trans b)).sq⟩) fun i F2 H2 x H3 hi a b y => ?_⟩⟩
                obtain ⟨Tn, x1, y1, rfl, hn, e3, hx, hy⟩ := y
                rw [zipD_len] at hi
                have hx : vs0[i]? = some x1 := hx
                have hy : vs1[i]? = some y1 := hy
                obtain ⟨v, hv, dv⟩ := dqAll_get ha (List.getElem?_eq_getElem (show i < xs.length by omega))
                obtain ⟨v', hv', dv'⟩ := dqAll_get ha' (List.getElem?_eq_getElem (show i < ys.length by omega))
                rw [hv] at hx; cases hx
                rw [hv'] at hy; cases hy
                obtain ⟨F3, g3, d3⟩ := pair_ok (K := X.K) (v := .non) b hn e3 (dq_mono a _ _ dv) (dq_mono a _ _ dv')
                exact ⟨F3, _, zipD_get (List.getElem?_eq_getElem (by omega)) (List.getElem?_eq_getElem (by omega)), g3, d3⟩
      · cases q
end
end VL

end

section
set_option Elab.async false
set_option linter.all false
set_option maxRecDepth 100000
namespace VL
open PySem PySem.Spec PyProof.Rows L2

/-! ### list comprehensions: elements are data -/
def wipeR (ρ : Rho) : List Nat → Rho
  | [] => ρ
  | i :: vs => (wipeR ρ vs).set i .no
def noOwn (ρ : Rho) : List Nat → Bool
  | [] => true
  | i :: vs => (match ρ[i]? with
    | some (.own _ _) => false
    | some (.al _ _) => false
    | _ => true) && noOwn ρ vs
/-- the slots vs as in ρ0 -/
def restR (ρ0 ρ : Rho) : List Nat → Rho
  | [] => ρ
  | i :: vs => match ρ0[i]? with
    | some s => (restR ρ0 ρ vs).set i s
    | none => restR ρ0 ρ vs
def compGo (vs : List Nat) (G : MG) (tt : M Bool) (te : M Rv) : List PyData → List PyData → Rho → Option (List PyData × Rho)
  | [], acc, ρ => some (acc, ρ)
  | x :: xs, acc, ρ => match G x ρ with
    | none => none
    | some ρ1 => match tt ρ1 with
      | some (.ok true ρ2) => (match te ρ2 with
        | some (.ok (.d d) ρ3) => if small (acc.length + 1) && noOwn ρ3 vs then compGo vs G tt te xs (acc ++ [d]) (wipeR ρ3 vs) else none
        | _ => none)
      | some (.ok false ρ2) => if noOwn ρ2 vs then compGo vs G tt te xs acc (wipeR ρ2 vs) else none
      | _ => none
def comp1 (vs : List Nat) (G : MG) (tt : M Bool) (te : M Rv) (xs : List PyData) : M Tr := fun ρ =>
  if noOwn ρ vs then (match compGo vs G tt te xs [] (wipeR ρ vs) with
    | some (ds, ρ') => if noOwn ρ' vs then some (.ok (.lst (ds.map .dat)) (restR ρ ρ' vs)) else none
    | none => none) else none
def nComp (fi : M (List PyData)) (vs : List Nat) (G : MG) (tt : M Bool) (te : M Rv) : M Tr := bnd fi (comp1 vs G tt te)
def tYesM : M Bool := ret true

theorem wipeR_len {ρ : Rho} : ∀ {vs : List Nat}, (wipeR ρ vs).length = ρ.length
  | [] => rfl
  | i :: vs => by unfold wipeR; rw [List.length_set, wipeR_len (vs := vs)]
theorem wipeR_out {ρ : Rho} {j : Nat} : ∀ {vs : List Nat}, j ∉ vs → (wipeR ρ vs)[j]? = ρ[j]?
  | [], _ => rfl
  | i :: vs, h => by
    unfold wipeR
    rw [List.getElem?_set_ne fun z => h (by simp [z])]
    exact wipeR_out fun z => h (List.mem_cons_of_mem _ z)
theorem wipeR_in {ρ : Rho} {j : Nat} {s : Sl} : ∀ {vs : List Nat}, j ∈ vs → (wipeR ρ vs)[j]? = some s → s = .no
  | i :: vs, h, e => by
    unfold wipeR at e
    by_cases hij : i = j
    · subst hij
      by_cases hl : i < (wipeR ρ vs).length
      · rw [List.getElem?_set_self hl] at e; exact (Option.some.inj e).symm
      · rw [List.getElem?_eq_none (by simpa using hl)] at e; cases e
    · rw [List.getElem?_set_ne hij] at e
      rcases List.mem_cons.mp h with z | z
      · exact absurd z.symm hij
      · exact wipeR_in z e
theorem noOwn_get {ρ : Rho} {j : Nat} : ∀ {vs : List Nat}, noOwn ρ vs = true → j ∈ vs → ∀ m t, ρ[j]? ≠ some (.own m t)
  | i :: vs, h, hj, m, t, e => by
    unfold noOwn at h
    rw [Bool.and_eq_true] at h
    rcases List.mem_cons.mp hj with z | z
    · subst z
      rw [e] at h
      exact absurd h.1 Bool.false_ne_true
    · exact noOwn_get h.2 z m t e
theorem noOwn_al {ρ : Rho} {j : Nat} : ∀ {vs : List Nat}, noOwn ρ vs = true → j ∈ vs → ∀ i p, ρ[j]? ≠ some (.al i p)
  | i :: vs, h, hj, m, t, e => by
    unfold noOwn at h
    rw [Bool.and_eq_true] at h
    rcases List.mem_cons.mp hj with z | z
    · subst z
      rw [e] at h
      exact absurd h.1 Bool.false_ne_true
    · exact noOwn_al h.2 z m t e
theorem restR_len {ρ0 ρ : Rho} : ∀ {vs : List Nat}, (restR ρ0 ρ vs).length = ρ.length
  | [] => rfl
  | i :: vs => by
    unfold restR
    split
    · rw [List.length_set, restR_len (vs := vs)]
    · exact restR_len (vs := vs)
theorem restR_out {ρ0 ρ : Rho} {j : Nat} : ∀ {vs : List Nat}, j ∉ vs → (restR ρ0 ρ vs)[j]? = ρ[j]?
  | [], _ => rfl
  | i :: vs, h => by
    unfold restR
    split
    · rw [List.getElem?_set_ne fun z => h (by simp [z])]
      exact restR_out fun z => h (List.mem_cons_of_mem _ z)
    · exact restR_out fun z => h (List.mem_cons_of_mem _ z)
theorem restR_in {ρ0 ρ : Rho} {j : Nat} (hl : ρ0.length = ρ.length) : ∀ {vs : List Nat}, j ∈ vs → (restR ρ0 ρ vs)[j]? = ρ0[j]?
  | i :: vs, h => by
    unfold restR
    by_cases hij : i = j
    · subst hij
      cases q : ρ0[i]? with
      | some s =>
        have hi := (List.getElem?_eq_some_iff.mp q).1
        simp only
        rw [List.getElem?_set_self (by rw [restR_len]; omega)]
      | none =>
        simp only
        rw [List.getElem?_eq_none_iff] at q
        rw [List.getElem?_eq_none (by rw [restR_len]; omega)]
    · have hj : j ∈ vs := by
        rcases List.mem_cons.mp h with z | z
        · exact absurd z.symm hij
        · exact z
      split
      · rw [List.getElem?_set_ne hij]
        exact restR_in hl hj
      · exact restR_in hl hj
theorem wipe_out {σ : Sg} {j : Nat} : ∀ {vs : List Nat}, j ∉ vs → sg (wipe σ vs) j = sg σ j
  | [], _ => rfl
  | i :: vs, h => by
    unfold wipe
    rw [sg_set_ne fun z => h (by simp [z])]
    exact wipe_out fun z => h (List.mem_cons_of_mem _ z)
theorem get_of_sg {σ σ' : Sg} (hl : σ'.length = σ.length) {j : Nat} (h : sg σ' j = sg σ j) : σ'[j]? = σ[j]? := by
  unfold sg at h
  by_cases hj : j < σ.length
  · rw [List.getElem?_eq_getElem hj, List.getElem?_eq_getElem (by omega)] at h ⊢
    simpa using h
  · rw [List.getElem?_eq_none (by omega), List.getElem?_eq_none (by omega)]
theorem wipe_get {σ : Sg} {j : Nat} : ∀ {vs : List Nat}, (wipe σ vs)[j]? = if j ∈ vs ∧ j < σ.length then some none else σ[j]?
  | [] => by simp [wipe]
  | i :: vs => by
    unfold wipe
    by_cases hij : i = j
    · subst hij
      by_cases hl : i < σ.length
      · rw [List.getElem?_set_self (by rw [wipe_length]; exact hl), if_pos ⟨by simp, hl⟩]
      · rw [if_neg fun z => hl z.2, List.getElem?_eq_none (by rw [List.length_set, wipe_length]; omega), List.getElem?_eq_none (by omega)]
    · rw [List.getElem?_set_ne hij, wipe_get (vs := vs)]
      have e : (j ∈ i :: vs ∧ j < σ.length) ↔ (j ∈ vs ∧ j < σ.length) := by simp [Ne.symm hij]
      by_cases h : j ∈ vs ∧ j < σ.length
      · rw [if_pos h, if_pos (e.mpr h)]
      · rw [if_neg h, if_neg fun z => h (e.mp z)]
theorem wipe_same {σ σ' : Sg} {vs : List Nat} (hl : σ'.length = σ.length) (h : ∀ j, j ∉ vs → sg σ' j = sg σ j) : wipe σ' vs = wipe σ vs := by
  apply List.ext_getElem?
  intro j
  rw [wipe_get, wipe_get, hl]
  by_cases hj : j ∈ vs ∧ j < σ.length
  · rw [if_pos hj, if_pos hj]
  · rw [if_neg hj, if_neg hj]
    by_cases hv : j ∈ vs
    · have hlt : ¬ j < σ.length := fun z => hj ⟨hv, z⟩
      rw [List.getElem?_eq_none (by omega), List.getElem?_eq_none (by omega)]
    · exact get_of_sg hl (h j hv)
/-- a heap without the object at D -/
def hid (H : Hp) (D : Addr) : Hp := fun b => if b = D then none else H b
theorem hid_ne {H : Hp} {D b : Addr} (h : b ≠ D) : hid H D b = H b := by unfold hid; rw [if_neg h]
theorem hid_at {H : Hp} {D : Addr} : hid H D D = none := by unfold hid; rw [if_pos rfl]
theorem hid_some {H : Hp} {D b : Addr} {o : HO} (h : hid H D b = some o) : b ≠ D ∧ H b = some o := by
  by_cases e : b = D
  · subst e; rw [hid_at] at h; cases h
  · exact ⟨e, by rw [hid_ne e] at h; exact h⟩
theorem hid_upd {H : Hp} {D : Addr} {o : HO} : hid (upd H D o) D = hid H D := by
  funext b
  by_cases e : b = D
  · subst e; rw [hid_at, hid_at]
  · rw [hid_ne e, hid_ne e, upd_ne e]
theorem hid_free {H : Hp} {D : Addr} (h : H D = none) : hid H D = H := by
  funext b
  by_cases e : b = D
  · subst e; rw [hid_at, h]
  · rw [hid_ne e]
section
variable {K : Fg} {F H F' H' : Hp} {σ σ' : Sg} {ρ ρ' : Rho} {fp fp' : FP} {D : Addr} {vs : List Nat}
theorem env_hid (E : EnvOk K F H σ ρ fp) (hF : F D = none) (hO : ¬ Owns fp D) (hD : ∀ ps, H D ≠ some (.tbl ps)) : EnvOk K F (hid H D) σ ρ fp := by
  refine ⟨fun b o e => ?_, E.len, fun i s h => ?_, E.nil, E.nd, E.ap, E.tb.mono (Same.refl _) fun P ps h1 h2 => ⟨h2, hid_ne fun z => by subst z; exact hD ps h1⟩, E.al' (fun _ _ _ h => ⟨h, rfl⟩) fun i _ _ h => ⟨h, rfl, fun b hb => hid_ne fun z => by subst z; exact hO ⟨i, hb⟩⟩⟩
  · rw [hid_ne fun z => by subst z; rw [hF] at e; cases e]
    exact E.sub b o e
  · have q := E.sl i s h
    cases s with
    | no => trivial
    | al _ _ => trivial
    | val d => exact q
    | own m t =>
      obtain ⟨u, e1, e2⟩ := q
      exact ⟨u, e1, e2.move (Same.refl _) fun b hb => ⟨hid_ne fun z => by subst z; exact hO ⟨i, hb⟩, (e2.mem b hb).2⟩⟩
theorem env_show (E : EnvOk K F (hid H D) σ ρ fp) : EnvOk K F H σ ρ fp := by
  refine ⟨fun b o e => (hid_some (E.sub b o e)).2, E.len, fun i s h => ?_, E.nil, E.nd, E.ap, E.tb.mono (Same.refl _) fun P ps h1 h2 => ⟨h2, (hid_some h1).2.trans h1.symm⟩, E.al' (fun _ _ _ h => ⟨h, rfl⟩) fun i _ _ h => ⟨h, rfl, fun b hb => by
    cases z : hid H D b with
    | none => exact absurd z (E.there ⟨i, hb⟩).1
    | some o => exact (hid_some z).2⟩⟩
  have q := E.sl i s h
  cases s with
  | no => trivial
  | al _ _ => trivial
  | val d => exact q
  | own m t =>
    obtain ⟨u, e1, e2⟩ := q
    refine ⟨u, e1, e2.move (Same.refl _) fun b hb => ⟨?_, (e2.mem b hb).2⟩⟩
    cases z : hid H D b with
    | none => exact absurd z (e2.mem b hb).1
    | some o => exact (hid_some z).2
/-- D stays what it is -/
theorem step_keeps (s : Step K F H σ ρ fp F' H' σ' ρ' fp') {o : HO} (hD : H D = some o) (hF : F D = none) (hO : ¬ Owns fp D) (hn : ∀ ps, o ≠ .tbl ps := by exact fun _ z => nomatch z) (hk : ∀ ks : List Key, o ≠ .tup (ks.map kV) := by exact fun _ z => nomatch z) : H' D = some o ∧ F' D = none ∧ ¬ Owns fp' D := by
  refine ⟨s.frame D o hD hO hn, ?_, fun z => ?_⟩
  · cases q : F' D with
    | none => rfl
    | some u =>
      rcases s.nf D hF (by rw [q]; exact fun z => nomatch z) with z | z | ⟨ks, z⟩ | ⟨ps, z⟩
      · rw [hD] at z; cases z
      · exact absurd z hO
      · rw [hD] at z; exact absurd (Option.some.inj z) (hk ks)
      · rw [hD] at z; exact absurd (Option.some.inj z) (hn ps)
  · rcases s.own D z with z | z
    · exact hO z
    · rw [hD] at z; cases z
theorem step_hid (s : Step K F H σ ρ fp F' H' σ' ρ' fp') (hF : F' D = none) (hO : ¬ Owns fp' D) (hn : ∀ ps, H' D ≠ some (.tbl ps)) : Step K F (hid H D) σ ρ fp F' (hid H' D) σ' ρ' fp' := by
  refine ⟨env_hid s.env hF hO hn, s.fr, fun b h h' => ?_, fun b h => ?_, fun b o h n nt => ?_, fun b h => (s.own b h).imp_right fun z => ?_, s.pin, fun i t h => ?_⟩
  · by_cases e : b = D
    · subst e; exact .inl hid_at
    · unfold KT
      rw [hid_ne e]; exact s.nf b h h'
  · by_cases e : b = D
    · subst e; exact hid_at
    · rw [hid_ne e] at h ⊢; exact s.dom b h
  · obtain ⟨e, h⟩ := hid_some h
    rw [hid_ne e]
    exact s.frame b o h n nt
  · by_cases e : b = D
    · subst e; exact hid_at
    · rw [hid_ne e]; exact z
  · obtain ⟨a, b, c, d⟩ := s.lock i t h
    refine ⟨a, b, c, fun x hx => ?_⟩
    by_cases e : x = D
    · subst e; rw [hid_at, hid_at]
    · rw [hid_ne e, hid_ne e]; exact d x hx
/-- the slots vs forgotten -/
theorem wipe_step {σin : Sg} (E : EnvOk K F H σ ρ fp) (hn : noOwn ρ vs = true) (hl : σin.length = σ.length) (hs : ∀ i, i ∉ vs → sg σin i = sg σ i) : Step K F H σ ρ fp F H σin (wipeR ρ vs) fp := by
  have own : ∀ {i m t}, (wipeR ρ vs)[i]? = some (Sl.own m t) → i ∉ vs ∧ ρ[i]? = some (Sl.own m t) := fun {i m t} h => by
    by_cases hi : i ∈ vs
    · exact nomatch wipeR_in hi h
    · exact ⟨hi, by rw [wipeR_out hi] at h; exact h⟩
  have out : ∀ {i m t}, ρ[i]? = some (Sl.own m t) → i ∉ vs := fun {i m t} h hi => noOwn_get hn hi m t h
  refine ⟨⟨E.sub, by rw [wipeR_len, hl]; exact E.len, fun i s h => ?_, fun i h => ?_, E.nd, E.ap, E.tb, E.al' (fun j i p h => ?_) fun i p t h => ?_⟩, Same.refl _, fun _ h h' => absurd h h', fun _ h => h, fun _ _ h _ _ => h, fun _ h => .inl h, fun i m t h hm => ?_, fun i t h => ?_⟩
  rotate_left 2
  · by_cases hi : j ∈ vs
    · exact nomatch wipeR_in hi h
    · rw [wipeR_out hi] at h; exact ⟨h, hs j hi⟩
  · exact ⟨(own h).2, hs i (own h).1, fun _ _ => rfl⟩
  rotate_right 2
  · by_cases hi : i ∈ vs
    · have := wipeR_in hi h
      subst this
      trivial
    · rw [wipeR_out hi] at h
      rw [hs i hi]
      exact E.sl i s h
  · refine E.nil i fun m t z => h m t ?_
    rw [wipeR_out (out z)]
    exact z
  · exact ⟨hs i (out h), m, t, by rw [wipeR_out (out h)]; exact h, hm⟩
  · exact ⟨hs i (out h), by rw [wipeR_out (out h)]; exact h, rfl, fun _ _ => rfl⟩
end
/-- what a turn of the comprehension leaves: as an expression's step, over the block's slots -/
structure Blk (K : Fg) (T vs : List Nat) (F H : Hp) (σ : Sg) (ρ : Rho) (fp : FP) (F' H' : Hp) (σ' : Sg) (ρ' : Rho) (fp' : FP) : Prop where
  st : Step K F H σ ρ fp F' H' σ' ρ' fp'
  len : σ'.length = σ.length
  rl : ρ'.length = ρ.length
  sv : ∀ i, i ∉ vs → sg σ' i = sg σ i
  ko : ∀ (i : Nat) m t, i ∉ vs → ρ[i]? = some (Sl.own m t) → ∃ t', ρ'[i]? = some (Sl.own m t')
  un : ∀ (i : Nat), i ∉ vs → i ∉ T → ρ'[i]? = ρ[i]? ∧ fp' i = fp i ∧ ∀ b ∈ fp i, H' b = H b
section
variable {K : Fg} {T vs : List Nat} {F H F1 H1 F2 H2 : Hp} {σ σ1 σ2 : Sg} {ρ ρ1 ρ2 : Rho} {fp fp1 fp2 : FP}
theorem Blk.refl (E : EnvOk K F H σ ρ fp) : Blk K T vs F H σ ρ fp F H σ ρ fp := ⟨.refl E, rfl, rfl, fun _ _ => rfl, fun _ _ t _ h => ⟨t, h⟩, fun _ _ _ => ⟨rfl, rfl, fun _ _ => rfl⟩⟩
theorem Blk.trans (a : Blk K T vs F H σ ρ fp F1 H1 σ1 ρ1 fp1) (b : Blk K T vs F1 H1 σ1 ρ1 fp1 F2 H2 σ2 ρ2 fp2) : Blk K T vs F H σ ρ fp F2 H2 σ2 ρ2 fp2 :=
  ⟨a.st.trans b.st, b.len.trans a.len, b.rl.trans a.rl, fun i hi => (b.sv i hi).trans (a.sv i hi), fun i m t hi h => let ⟨t1, h1⟩ := a.ko i m t hi h; b.ko i m t1 hi h1, fun i hi hT => by
    obtain ⟨a1, a2, a3⟩ := a.un i hi hT
    obtain ⟨b1, b2, b3⟩ := b.un i hi hT
    exact ⟨b1.trans a1, b2.trans a2, fun c hc => (b3 c (by rw [a2]; exact hc)).trans (a3 c hc)⟩⟩
theorem Blk.of_e {T1 : List Nat} (E : EnvOk K F H σ ρ fp) (a : EStep K T1 F H σ ρ fp F1 H1 ρ1 fp1) (hT : ∀ i ∈ T1, i ∈ T) : Blk K T vs F H σ ρ fp F1 H1 σ ρ1 fp1 :=
  ⟨a.st, rfl, by have h1 := a.env.len; have h2 := E.len; omega, fun _ _ => rfl, fun i m t _ h => a.ko i m t h, fun i _ hi => a.un i fun z => hi (hT i z)⟩
theorem Blk.of_g {ws : List Nat} (E : EnvOk K F H σ ρ fp) (s : Step K F H σ ρ fp F H σ1 ρ1 fp1) (o : Off ws σ ρ fp σ1 ρ1 fp1) (hw : ∀ i ∈ ws, i ∈ vs) : Blk K T vs F H σ ρ fp F H σ1 ρ1 fp1 :=
  ⟨s, o.1, by have h1 := s.env.len; have h2 := E.len; have h3 := o.1; omega, fun i hi => (o.2 i fun z => hi (hw i z)).1, fun i m t hi h => ⟨t, by rw [(o.2 i fun z => hi (hw i z)).2.1]; exact h⟩, fun i hi _ => ⟨(o.2 i fun z => hi (hw i z)).2.1, (o.2 i fun z => hi (hw i z)).2.2, fun _ _ => rfl⟩⟩
theorem Blk.of_w {σin : Sg} (E : EnvOk K F H σ ρ fp) (hn : noOwn ρ vs = true) (hl : σin.length = σ.length) (hs : ∀ i, i ∉ vs → sg σin i = sg σ i) : Blk K T vs F H σ ρ fp F H σin (wipeR ρ vs) fp :=
  ⟨wipe_step E hn hl hs, hl, wipeR_len, hs, fun i m t hi h => ⟨t, by rw [wipeR_out hi]; exact h⟩, fun i hi _ => ⟨wipeR_out hi, rfl, fun _ _ => rfl⟩⟩
theorem Blk.hid {D : Addr} {o : HO} (s : Blk K T vs F H σ ρ fp F1 H1 σ1 ρ1 fp1) (hF : F1 D = none) (hO : ¬ Owns fp1 D) (hD : H1 D = some o) (hn : ∀ ps, o ≠ .tbl ps := by exact fun _ z => nomatch z) : Blk K T vs F (hid H D) σ ρ fp F1 (VL.hid H1 D) σ1 ρ1 fp1 :=
  ⟨step_hid s.st hF hO (fun ps z => hn ps (Option.some.inj (hD.symm.trans z))), s.len, s.rl, s.sv, s.ko, fun i hi hT => by
    obtain ⟨a, b, c⟩ := s.un i hi hT
    refine ⟨a, b, fun x hx => ?_⟩
    by_cases e : x = D
    · subst e; rw [hid_at, hid_at]
    · rw [hid_ne e, hid_ne e]; exact c x hx⟩
end
def VTs (X : Cx) (T : List Nat) (W : WV) (ifs : List Expr) (f : M Bool) : Prop := PTs X ifs (tVT X.K T W f)
section
variable {X : Cx} {T T1 T2 T3 : List Nat} {W : WV} {pos : Pos}
theorem pts_imp {e : List Expr} {t t' : TT} (h : PTs X e t) (i : ∀ σ H Q, t' σ H Q → t σ H Q) : PTs X e t' := ⟨fun pins s σ H Q I q => h.run pins s σ H Q I (i σ H Q q)⟩
theorem vts_nil : VTs X [] W [] tYesM := pts_imp pts_nil fun σ H Q ⟨F, ρ, fp, o, E, e, P⟩ => by
  cases ok_inj e
  exact P _ H F fp (.refl E) rfl
theorem vts_one {c : Expr} {fc : M Bool} (h : VT X T W c fc) : VTs X T W [c] fc := pts_one h
theorem tv_comp {K : Fg} {σ : Sg} {H : Hp} {Q : VK} {wi : TI} {fi : M (List PyData)} {gt : TG} {ws vs : List Nat} {G : MG} {tt : M Bool} {te : M Rv}
    (hi : ∀ σ H R F ρ fp o, EnvOk K F H σ ρ fp → fi ρ = some o →
      (match o with
       | Er.ok xs ρ' => ∀ J G Y H1 F1 fp1, EStep K T1 F H σ ρ fp F1 H1 ρ' fp1 → Walk J xs.length G Y → (∀ F2 H2, Same F1 F2 → Same F2 H2 → G H2) →
          (∀ i F2 H2 x H3, i < xs.length → Same F1 F2 → Same F2 H2 → Y i H2 x H3 → ∃ F3 d, xs[i]? = some d ∧ Grow F2 H2 F3 H3 ∧ Dq K F3 x d) → R J H1
       | Er.ex c ρ' => ∀ H1 F1 fp1, EStep K T1 F H σ ρ fp F1 H1 ρ' fp1 → W c σ H1) → wi σ H R)
    (hg : GOk K gt ws G) (hw : ∀ i ∈ ws, i ∈ vs) (h : tVN K (T1 ++ (T2 ++ T3)) W (nComp fi vs G tt te) σ H Q) : tLc wi gt (tVT K T2 W0 tt) (tV K T3 W0 te) vs σ H Q := by
  obtain ⟨F, ρ, fp, o, E, e, P⟩ := h
  unfold nComp bnd at e
  cases hf : fi ρ with
  | none => rw [hf] at e; cases e
  | some r =>
    rw [hf] at e
    cases r with
    | ex c ρ1 => cases e; exact hi σ H _ F ρ fp _ E hf fun H1 F1 fp1 s1 => P H1 F1 fp1 (s1.sub fun i hi => List.mem_append_left _ hi)
    | ok xs ρ1 =>
      refine hi σ H _ F ρ fp _ E hf fun J Gw Y H1 F1 fp1 s1 w hG hY D nD => ?_
      simp only at e
      unfold comp1 at e
      split at e
      · rename_i hn1
        split at e
        · rename_i ds ρe hgo
          split at e
          · rename_i hne
            cases ok_inj e
            have hFD : F1 D = none := s1.env.sub.free nD
            have hOD : ¬ Owns fp1 D := fun z => (s1.env.there z).1 nD
            -- the block's start, the list being hidden
            have b0 : Blk K (T2 ++ T3) vs F1 H1 σ ρ1 fp1 F1 (hid (upd H1 D (.lst [])) D) (wipe σ vs) (wipeR ρ1 vs) fp1 := by
              rw [hid_upd, hid_free nD]
              exact .of_w s1.env hn1 (wipe_length σ vs) fun i hi => wipe_out hi
            refine lc_it w (fun i H' => ∃ F' ρ' fp' acc ds', Blk K (T2 ++ T3) vs F1 H1 σ ρ1 fp1 F' (hid H' D) (wipe σ vs) ρ' fp' ∧ H' D = some (.lst acc) ∧ F' D = none ∧ ¬ Owns fp' D ∧ DqAll K F' acc ds' ∧ compGo vs G tt te (xs.drop i) ds' ρ' = some (ds, ρe))
              ⟨F1, wipeR ρ1 vs, fp1, [], [], b0, upd_same, hFD, hOD, .nil, by rw [List.drop_zero]; exact hgo⟩
              (fun i H' _ ⟨F', ρ', fp', acc, ds', b, _⟩ => hG F' H' b.st.fr (env_show b.st.env).sub) (fun i x H' H3 hilt ⟨F', ρ', fp', acc, ds', b, hD, hFD', hOD', hacc, hgo'⟩ y => ?_) fun H' ⟨F', ρ', fp', acc, ds', b, hD, hFD', hOD', hacc, hgo'⟩ => ?_
            · have E' := env_show b.st.env
              obtain ⟨F3, d, hd, g3, dx⟩ := hY i F' H' x H3 hilt b.st.fr E'.sub y
              have hdrop : xs.drop i = d :: xs.drop (i + 1) := by
                obtain ⟨hi', hd'⟩ := List.getElem?_eq_some_iff.mp hd
                rw [List.drop_eq_getElem_cons hi', hd']
              rw [hdrop] at hgo'
              unfold compGo at hgo'
              have s3 : EStep K [] F' H' (wipe σ vs) ρ' fp' F3 H3 ρ' fp' := g3.step E'
              obtain ⟨hD3, hF3, hO3⟩ := step_keeps s3.st hD hFD' hOD'
              have b3 : Blk K (T2 ++ T3) vs F1 H1 σ ρ1 fp1 F3 (hid H3 D) (wipe σ vs) ρ' fp' := b.trans ((Blk.of_e E' s3 (fun i hi => nomatch hi)).hid hF3 hO3 hD3)
              split at hgo'
              · cases hgo'
              · rename_i ρ4 h4
                refine hg x (wipe σ vs) H3 _ F3 ρ' fp' d ρ4 s3.env dx h4 fun σ4 fp4 s4 o4 => ?_
                have hF4 := hF3
                obtain ⟨hD4, _, hO4⟩ := step_keeps s4 hD3 hF3 hO3
                have b4 := b3.trans ((Blk.of_g (T := T2 ++ T3) s3.env s4 o4 hw).hid hF4 hO4 hD4)
                have hσ4 : wipe σ4 vs = wipe σ vs := wipe_same b4.len b4.sv
                refine ⟨hσ4, ?_⟩
                cases htt : tt ρ4 with
                | none => rw [htt] at hgo'; cases hgo'
                | some rt =>
                  rw [htt] at hgo'
                  cases rt with
                  | ex c ρ5 => cases hgo'
                  | ok k ρ5 =>
                    refine ⟨F3, ρ4, fp4, _, s4.env, htt, fun k' H5 F5 fp5 s5 r5 => ?_⟩
                    have r5 : k' = k := r5
                    subst r5
                    obtain ⟨hD5, hF5, hO5⟩ := step_keeps s5.st hD4 hF4 hO4
                    have b5 := b4.trans ((Blk.of_e (vs := vs) (T := T2 ++ T3) s4.env s5 (fun i hi => List.mem_append_left _ hi)).hid hF5 hO5 hD5)
                    cases k' with
                    | false =>
                      dsimp only
                      rw [if_neg Bool.false_ne_true]
                      simp only at hgo'
                      split at hgo'
                      · rename_i hn5
                        have bw := (Blk.of_w (T := T2 ++ T3) (σin := wipe σ vs) s5.env hn5 (by rw [wipe_length]; exact b5.len.symm) fun i hi => by rw [wipe_out hi]; exact (b5.sv i hi).symm).hid hF5 hO5 hD5
                        exact ⟨F5, wipeR ρ5 vs, fp5, acc, ds', b5.trans bw, hD5, hF5, hO5, dqAll_mono (g3.f.trans s5.st.fr) _ _ hacc, hgo'⟩
                      · cases hgo'
                    | true =>
                      dsimp only
                      rw [if_pos rfl]
                      simp only at hgo'
                      cases hte : te ρ5 with
                      | none => rw [hte] at hgo'; cases hgo'
                      | some re =>
                        rw [hte] at hgo'
                        cases re with
                        | ex c ρ6 => cases hgo'
                        | ok rv ρ6 =>
                          cases rv with
                          | o j => cases hgo'
                          | d d6 =>
                            refine ⟨F5, ρ5, fp5, _, s5.env, hte, fun y6 H6 F6 fp6 s6 r6 => ?_⟩
                            obtain ⟨hD6, hF6, hO6⟩ := step_keeps s6.st hD5 hF5 hO5
                            have b6 := b5.trans ((Blk.of_e (vs := vs) (T := T2 ++ T3) s5.env s6 (fun i hi => List.mem_append_right _ hi)).hid hF6 hO6 hD6)
                            simp only at hgo'
                            split at hgo'
                            · rename_i hn6
                              rw [Bool.and_eq_true] at hn6
                              have hacc6 := dqAll_mono (g3.f.trans (s5.st.fr.trans s6.st.fr)) _ _ hacc
                              refine ⟨acc, hD6, ?_, F6, wipeR ρ6 vs, fp6, acc ++ [y6], ds' ++ [d6], ?_, upd_same, hF6, hO6, dqAll_app hacc6 (.cons r6 .nil), hgo'⟩
                              · have := small_iff.mp hn6.1
                                rw [dqAll_len hacc6]
                                omega
                              · rw [hid_upd]
                                have bw := (Blk.of_w (T := T2 ++ T3) (σin := wipe σ vs) s6.env hn6.2 (by rw [wipe_length]; exact b6.len.symm) fun i hi => by rw [wipe_out hi]; exact (b6.sv i hi).symm).hid hF6 hO6 hD6
                                exact b6.trans bw
                            · cases hgo'
            · rw [List.drop_length] at hgo'
              cases (Option.some.inj hgo')
              -- the end: the slots as they were
              have E' := env_show b.st.env
              have hl1 : ρ1.length = ρe.length := b.rl.symm
              have slot : ∀ (i : Nat), i ∈ vs → (restR ρ1 ρe vs)[i]? = ρ1[i]? := fun i hi => restR_in hl1 hi
              have Er : EnvOk K F' H' σ (restR ρ1 ρe vs) fp' := by
                refine ⟨E'.sub, by rw [restR_len, ← hl1]; exact s1.env.len, fun i s hs => ?_, fun i hi => ?_, E'.nd, E'.ap, E'.tb, E'.al' (fun j i p h => ?_) fun i p t h => ?_⟩
                rotate_left 2
                · by_cases hv : j ∈ vs
                  · rw [slot j hv] at h; exact absurd h (noOwn_al hn1 hv i p)
                  · rw [restR_out hv] at h; exact ⟨h, (wipe_out hv).symm⟩
                · by_cases hv : i ∈ vs
                  · rw [slot i hv] at h; exact absurd h (noOwn_get hn1 hv _ t)
                  · rw [restR_out hv] at h; exact ⟨h, (wipe_out hv).symm, fun _ _ => rfl⟩
                rotate_right 2
                · by_cases hv : i ∈ vs
                  · rw [slot i hv] at hs
                    have q := s1.env.sl i s hs
                    cases s with
                    | no => trivial
                    | al _ _ => trivial
                    | val d => obtain ⟨u, e1, e2⟩ := q; exact ⟨u, e1, dq_mono b.st.fr _ _ e2⟩
                    | own m t => exact absurd hs (noOwn_get hn1 hv m t)
                  · rw [restR_out hv] at hs
                    have q := E'.sl i s hs
                    rw [wipe_out hv] at q
                    exact q
                · by_cases hv : i ∈ vs
                  · exact E'.nil i fun m t z => noOwn_get hne hv m t z
                  · refine E'.nil i fun m t z => hi m t ?_
                    rw [restR_out hv]; exact z
              have fin : EStep K (T1 ++ (T2 ++ T3)) F1 H1 σ ρ1 fp1 F' H' (restR ρ1 ρe vs) fp' := by
                refine ⟨⟨Er, b.st.fr, b.st.nf, fun c hc => ?_, fun c o hc hn nt => (hid_some (b.st.frame c o hc hn nt)).2, b.st.own, fun i m t h hm => ?_, fun i t h => ?_⟩, fun i m t h => ?_, fun i hi => ?_⟩
                · refine b.st.dom c ?_
                  by_cases z : c = D
                  · subst z; exact hid_at
                  · rw [hid_ne z]; exact hc
                · have hv : i ∉ vs := fun z => noOwn_get hn1 z _ _ h
                  obtain ⟨_, m', t', h', k'⟩ := b.st.pin i m t h hm
                  exact ⟨rfl, m', t', by rw [restR_out hv]; exact h', k'⟩
                · have hv : i ∉ vs := fun z => noOwn_get hn1 z _ _ h
                  obtain ⟨_, h', hfp, hb⟩ := b.st.lock i t h
                  refine ⟨rfl, by rw [restR_out hv]; exact h', hfp, fun c hc => ?_⟩
                  have z := hb c hc
                  have hne : c ≠ D := fun z => by subst z; exact hOD ⟨i, hc⟩
                  rw [hid_ne hne] at z
                  exact z
                · have hv : i ∉ vs := fun z => noOwn_get hn1 z _ _ h
                  obtain ⟨t', h'⟩ := b.ko i m t hv h
                  exact ⟨t', by rw [restR_out hv]; exact h'⟩
                · by_cases hv : i ∈ vs
                  · have hnil : fp1 i = [] := s1.env.nil i fun m t z => noOwn_get hn1 hv m t z
                    have hnil' : fp' i = [] := E'.nil i fun m t z => noOwn_get hne hv m t z
                    refine ⟨slot i hv, by rw [hnil, hnil'], fun c hc => ?_⟩
                    rw [hnil] at hc
                    cases hc
                  · obtain ⟨a1, a2, a3⟩ := b.un i hv fun z => hi (List.mem_append_right _ z)
                    refine ⟨by rw [restR_out hv]; exact a1, a2, fun c hc => ?_⟩
                    have z := a3 c hc
                    have hne : c ≠ D := fun z => by subst z; exact hOD ⟨i, hc⟩
                    rw [hid_ne hne] at z
                    exact z
              refine P (.ref D) H' F' fp' ((s1.sub fun i hi => List.mem_append_left _ hi).trans fin) ⟨[D], ?_⟩
              refine ⟨.lst hD hFD' (trs_dat hacc), by simp, fun c hc => ?_, fun c hc => ?_⟩
              · rw [List.mem_singleton.mp hc]
                exact .inl (s1.st.dom D nD)
              · rw [List.mem_singleton.mp hc]
                exact hOD'
          · cases e
        · cases e
      · cases e
theorem vn_comp {elt tg iter : Expr} {ifs : List Expr} {scope : Scope} {own : List (Str × Nat)} {fi : M (List PyData)} {gt : TG} {ws : List Nat} {G : MG} {tt : M Bool} {te : M Rv} (hc : X.calm = true) (hN : X.N.Nodup) (hi : VI X T1 W tg iter fi) (ok : BlkOk X.N X.env.scope scope own)
    (hg : ∀ (s : Shared) (H : Hp) (C : Addr) (cl : List (Str × Addr)) (fp : List Addr), VG (X.blk s H scope (compEnvC scope cl C X.env) fp) tg gt ws G) (hw : ∀ i ∈ ws, i ∈ own.map (·.2))
    (ht : ∀ (s : Shared) (H : Hp) (C : Addr) (cl : List (Str × Addr)) (fp : List Addr), VTs (X.blk s H scope (compEnvC scope cl C X.env) fp) T2 W0 ifs tt)
    (he : ∀ (s : Shared) (H : Hp) (C : Addr) (cl : List (Str × Addr)) (fp : List Addr), VE (X.blk s H scope (compEnvC scope cl C X.env) fp) T3 W0 elt te) (hs : ∀ x, foldedSetIterable iter X.env x = pure x := by intro _; rfl) :
    VN X (T1 ++ (T2 ++ T3)) W (.ListComp elt [⟨tg, iter, ifs, 0⟩] scope pos) (nComp fi (own.map (·.2)) G tt te) := by
  obtain ⟨wi, p1, q1⟩ := hi
  exact pe_imp (pe_lc (tt := tVT X.K T2 W0 tt) (te := tV X.K T3 W0 te) hc hN p1 ok (fun s H C cl fp => (hg s H C cl fp).1) ht he hs) fun σ H Q h => tv_comp q1 (hg ⟨X.s_0.heap, X.s_0.gens, X.s_0.drawn, X.s_0.toks, X.s_0.os⟩ X.H_0 0 [] []).2 hw h
/-- name = [..], the list owned or frozen -/
theorem vs_setComp {i : Nat} {y : Str} {py spos : Pos} {elt tg iter : Expr} {ifs : List Expr} {scope : Scope} {own : List (Str × Nat)} {fi : M (List PyData)} {gt : TG} {ws : List Nat} {G : MG} {tt : M Bool} {te : M Rv} (hc : X.calm = true) (hN : X.N.Nodup) (hi : VI X T1 W tg iter fi) (ok : BlkOk X.N X.env.scope scope own)
    (hg : ∀ (s : Shared) (H : Hp) (C : Addr) (cl : List (Str × Addr)) (fp : List Addr), VG (X.blk s H scope (compEnvC scope cl C X.env) fp) tg gt ws G) (hw : ∀ i ∈ ws, i ∈ own.map (·.2))
    (ht : ∀ (s : Shared) (H : Hp) (C : Addr) (cl : List (Str × Addr)) (fp : List Addr), VTs (X.blk s H scope (compEnvC scope cl C X.env) fp) T2 W0 ifs tt)
    (he : ∀ (s : Shared) (H : Hp) (C : Addr) (cl : List (Str × Addr)) (fp : List Addr), VE (X.blk s H scope (compEnvC scope cl C X.env) fp) T3 W0 elt te) (hy : X.N[i]? = some y := by rfl) (hyl : X.env.scope.names.lookup y = some .local := by rfl)
    (hsw : swapsWith (.ListComp elt [⟨tg, iter, ifs, 0⟩] scope pos) (some (.Name y py)) spos.line X.env = pure true := by exact sw_true rfl rfl rfl (by decide +kernel)) (hs : ∀ x, foldedSetIterable iter X.env x = pure x := by intro _; rfl) :
    VS X W (.Assign [.Name y py] (.ListComp elt [⟨tg, iter, ifs, 0⟩] scope pos) spos) (sSetN i (nComp fi (own.map (·.2)) G tt te)) := by
  obtain ⟨wi, p1, q1⟩ := hi
  refine ps_imp (ps_setLc (tt := tVT X.K T2 W0 tt) (te := tV X.K T3 W0 te) hc hN hy hyl hsw p1 ok (fun s H C cl fp => (hg s H C cl fp).1) ht he hs) fun D σ H ⟨F, ρ, fp, o, E, e, P⟩ => ?_
  refine tv_comp (T1 := T1) q1 (hg ⟨X.s_0.heap, X.s_0.gens, X.s_0.drawn, X.s_0.toks, X.s_0.os⟩ X.H_0 0 [] []).2 hw (tv_st E e P fun t ρ1 v H1 F1 fp1 s1 ⟨A, n⟩ e1 _ => ?_)
  obtain ⟨ρ2, e2, rfl⟩ := map_some e1
  exact P _ H1 F1 _ (set_step s1.st e2 ⟨v, rfl, n.ok⟩ n.nd n.out (fun z => nomatch z) n.new)
theorem vs_setCompV {i : Nat} {y : Str} {py spos : Pos} {elt tg iter : Expr} {ifs : List Expr} {scope : Scope} {own : List (Str × Nat)} {fi : M (List PyData)} {gt : TG} {ws : List Nat} {G : MG} {tt : M Bool} {te : M Rv} (hc : X.calm = true) (hN : X.N.Nodup) (hi : VI X T1 W tg iter fi) (ok : BlkOk X.N X.env.scope scope own)
    (hg : ∀ (s : Shared) (H : Hp) (C : Addr) (cl : List (Str × Addr)) (fp : List Addr), VG (X.blk s H scope (compEnvC scope cl C X.env) fp) tg gt ws G) (hw : ∀ i ∈ ws, i ∈ own.map (·.2))
    (ht : ∀ (s : Shared) (H : Hp) (C : Addr) (cl : List (Str × Addr)) (fp : List Addr), VTs (X.blk s H scope (compEnvC scope cl C X.env) fp) T2 W0 ifs tt)
    (he : ∀ (s : Shared) (H : Hp) (C : Addr) (cl : List (Str × Addr)) (fp : List Addr), VE (X.blk s H scope (compEnvC scope cl C X.env) fp) T3 W0 elt te) (hy : X.N[i]? = some y := by rfl) (hyl : X.env.scope.names.lookup y = some .local := by rfl)
    (hsw : swapsWith (.ListComp elt [⟨tg, iter, ifs, 0⟩] scope pos) (some (.Name y py)) spos.line X.env = pure true := by exact sw_true rfl rfl rfl (by decide +kernel)) (hs : ∀ x, foldedSetIterable iter X.env x = pure x := by intro _; rfl) :
    VS X W (.Assign [.Name y py] (.ListComp elt [⟨tg, iter, ifs, 0⟩] scope pos) spos) (sSet i (cFrz (nComp fi (own.map (·.2)) G tt te))) := by
  obtain ⟨wi, p1, q1⟩ := hi
  refine ps_imp (ps_setLc (tt := tVT X.K T2 W0 tt) (te := tV X.K T3 W0 te) hc hN hy hyl hsw p1 ok (fun s H C cl fp => (hg s H C cl fp).1) ht he hs) fun D σ H ⟨F, ρ, fp, o, E, e, P⟩ => ?_
  refine tv_comp (T1 := T1) q1 (hg ⟨X.s_0.heap, X.s_0.gens, X.s_0.drawn, X.s_0.toks, X.s_0.os⟩ X.H_0 0 [] []).2 hw (tv_frz (tv_st E e P fun r ρ1 v H1 F1 fp1 s1 r1 e1 _ => ?_))
  cases r with
  | o _ => cases e1
  | d d =>
    obtain ⟨ρ2, e2, rfl⟩ := map_some e1
    exact P _ H1 F1 _ (put_val s1.st e2 r1)
end
end VL

end

section
set_option Elab.async false
set_option linter.all false
set_option maxRecDepth 100000
namespace VL
open PySem PySem.Spec PyProof.Rows L2

theorem kids_set {t k k' : Tr} {j : Nat} (h : (kids t)[j]? = some k) : (kids (setKid t j k'))[j]? = some k' := by
  have hj := (List.getElem?_eq_some_iff.mp h).1
  cases t with
  | dat _ => simp [kids] at hj
  | fk _ => simp [kids] at hj
  | ft _ => simp [kids] at hj
  | raw _ => simp [kids] at hj
  | hole => simp [kids] at hj
  | tup ts => exact List.getElem?_set_self hj
  | lst ts => exact List.getElem?_set_self hj
  | dk ts => show ((setSnd ts j k').map (·.2))[j]? = _; rw [setSnd_snd]; exact List.getElem?_set_self hj
  | dt ts => show ((setSnd ts j k').map (·.2))[j]? = _; rw [setSnd_snd]; exact List.getElem?_set_self hj
  | ins c ts => show ((setSnd ts j k').map (·.2))[j]? = _; rw [setSnd_snd]; exact List.getElem?_set_self hj
theorem put_at : ∀ {p : List Nat} {t y t0 : Tr}, t.at p = some t0 → (t.put p y).at p = some y
  | [], t, y, t0, h => by simp [Tr.put, Tr.at]
  | j :: p, t, y, t0, h => by
    simp only [Tr.at] at h
    split at h
    · rename_i k hk
      simp only [Tr.put, hk, Tr.at, kids_set hk]
      exact put_at h
    · cases h
theorem put_app : ∀ {p q : List Nat} {t y tp : Tr}, t.at p = some tp → t.put (p ++ q) y = t.put p (tp.put q y)
  | [], q, t, y, tp, h => by
    simp only [Tr.at] at h
    cases h
    simp [Tr.put]
  | j :: p, q, t, y, tp, h => by
    simp only [Tr.at] at h
    split at h
    · rename_i k hk
      simp only [List.cons_append, Tr.put, hk]
      rw [put_app h]
    · cases h
theorem at_appB : ∀ {p q : List Nat} {t tp : Tr}, t.at p = some tp → t.at (p ++ q) = tp.at q
  | [], q, t, tp, h => by
    simp only [Tr.at] at h
    cases h
    rfl
  | j :: p, q, t, tp, h => by
    simp only [Tr.at] at h
    split at h
    · rename_i k hk
      simp only [List.cons_append, Tr.at, hk]
      exact at_appB h
    · cases h
theorem path_app {H : Hp} : ∀ {p q : List Nat} {u v : V}, pathV H u p = some v → pathV H u (p ++ q) = pathV H v q
  | [], q, u, v, h => by
    simp only [pathV] at h
    cases h
    rfl
  | j :: p, q, u, v, h => by
    simp only [pathV] at h
    split at h
    · rename_i k hk
      simp only [List.cons_append, pathV, hk]
      exact path_app h
    · cases h
/-- a write at r is allowed: nothing locks, and what is borrowed stands above -/
def Md.wr (m : Md) (r : List Nat) : Prop := m ≠ .lock ∧ ∀ p, m = .bor p → ∃ r', r = p ++ r'
/-- THE STEP of a write: the object at a, which stands at the place p of the slot i, becomes o; A: the objects of a new tree that comes in -/
theorem mut_step {K : Fg} {T : List Nat} {F0 H0 F H : Hp} {σ : Sg} {ρ0 ρ : Rho} {fp0 fp : FP} {i : Nat} {m : Md} {t t' t'' : Tr} {u : V} {a : Addr} {p : List Nat} {A : List Addr} {o : HO}
    (s1 : EStep K T F0 H0 σ ρ0 fp0 F H ρ fp) (hi : ρ[i]? = some (.own m t)) (hm : m.wr p) (hu : sg σ i = some u) (hp : t.at p = some t') (hv : pathV H u p = some (.ref a)) (hA : ∀ b ∈ A, ¬ Owns fp b) (hnA : A.Nodup) (hw : ∀ b ∈ A, H0 b = none ∨ Owns fp0 b)
    (ht : ∀ B, TrOk K F H (.ref a) t' B → B.Nodup → (∀ b ∈ A, b ∉ B) → a ∈ B ∧ ∃ B', TrOk K F (upd H a o) (.ref a) t'' B' ∧ B'.Nodup ∧ ∀ b ∈ B', b ∈ B ∨ b ∈ A) :
    ∃ fp', EStep K (T ++ [i]) F0 H0 σ ρ0 fp0 F (upd H a o) (ρ.set i (.own m (t.put p t''))) fp' ∧ (∀ b, Owns fp' b → Owns fp b ∨ b ∈ A) := by
  have E := s1.env
  obtain ⟨u', e1, q⟩ := E.sl i _ hi
  rw [hu] at e1; cases e1
  obtain ⟨v', pre, B, post, g1, g2, g3, g4⟩ := focus q hp
  rw [hv] at g1; cases g1
  have hnd := E.nd i
  rw [g2] at hnd
  have hndB : B.Nodup := (List.nodup_append.mp (List.nodup_append.mp hnd).2.1).1
  have inB : ∀ b ∈ B, b ∈ fp i := fun b z => by rw [g2]; exact List.mem_append_right _ (List.mem_append_left _ z)
  obtain ⟨haB, B', q', hndB', hB'⟩ := ht B g3 hndB fun b hb z => hA b hb ⟨i, inB b z⟩
  have hfree : ∀ b ∈ fp i, F b = none := fun b z => (q.mem b z).2
  have disj1 : ∀ b ∈ pre, ∀ c ∈ B ++ post, b ≠ c := (List.nodup_append.mp hnd).2.2
  have disj2 : ∀ b ∈ B, ∀ c ∈ post, b ≠ c := (List.nodup_append.mp (List.nodup_append.mp hnd).2.1).2.2
  have nea : ∀ b, b ∈ pre ∨ b ∈ post → b ≠ a := fun b z e => by
    rcases z with z | z
    · exact disj1 b z a (List.mem_append_left _ haB) e
    · exact disj2 a haB b z e.symm
  have hin : ∀ b, b ∈ pre ∨ b ∈ post → b ∈ fp i := fun b z => by
    rw [g2]
    rcases z with z | z
    · exact List.mem_append_left _ z
    · exact List.mem_append_right _ (List.mem_append_right _ z)
  obtain ⟨qn, _⟩ := g4 F (upd H a o) t'' B' (Same.refl _) (fun b z => ⟨upd_ne (nea b z), hfree b (hin b z)⟩) q'
  have hil : i < ρ.length := (List.getElem?_eq_some_iff.mp hi).1
  have haO : a ∈ fp i := inB a haB
  have mem' : ∀ b, b ∈ pre ++ (B' ++ post) → b ∈ fp i ∨ b ∈ A := fun b z => by
    rcases List.mem_append.mp z with z | z
    · exact .inl (hin b (.inl z))
    · rcases List.mem_append.mp z with z | z
      · exact (hB' b z).imp_left (inB b)
      · exact .inl (hin b (.inr z))
  have hndn : (pre ++ (B' ++ post)).Nodup := by
    have cross : ∀ b ∈ B', ∀ c, c ∈ pre ∨ c ∈ post → b ≠ c := fun b hb c hc e => by
      subst e
      rcases hB' b hb with z | z
      · rcases hc with w | w
        · exact disj1 b w b (List.mem_append_left _ z) rfl
        · exact disj2 b z b w rfl
      · exact hA b z ⟨i, hin b hc⟩
    refine List.nodup_append.mpr ⟨(List.nodup_append.mp hnd).1, List.nodup_append.mpr ⟨hndB', (List.nodup_append.mp (List.nodup_append.mp hnd).2.1).2.1, fun b hb c hc => cross b hb c (.inr hc)⟩, fun b hb c hc => ?_⟩
    rcases List.mem_append.mp hc with z | z
    · exact fun e => cross c z b (.inl hb) e.symm
    · exact disj1 b hb c (List.mem_append_right _ z)
  have ow : ∀ b, Owns (fset fp i (pre ++ (B' ++ post))) b → Owns fp b ∨ b ∈ A := fun b hb => by
    rcases hb.fset with z | z
    · exact (mem' b z).imp_left fun w => ⟨i, w⟩
    · exact .inl z
  have neJ : ∀ j, j ≠ i → ∀ b ∈ fp j, b ≠ a := fun j hj b hb e => by subst e; exact hj (E.ap j i b hb haO)
  have alK : AlOk (upd H a o) σ (ρ.set i (.own m (t.put p t''))) := by
    intro j k pa tt h1 h2
    have hji : i ≠ j := fun z => by
      subst z
      rw [List.getElem?_set_self hil] at h1
      cases h1
    rw [List.getElem?_set_ne hji] at h1
    by_cases hk : i = k
    · subst hk
      rw [List.getElem?_set_self hil] at h2
      cases h2
      obtain ⟨r', rfl⟩ := hm.2 pa rfl
      obtain ⟨tp, u1, v1, c1, c2, c3, c4⟩ := E.al j i pa t h1 hi
      rw [hu] at c2; cases c2
      obtain ⟨v2, pre1, B1, post1, k1, k2, k3, k4⟩ := focus q c1
      rw [c4] at k1; cases k1
      rw [at_appB c1] at hp
      rw [path_app c4] at hv
      obtain ⟨v3, pre2, B2, post2, l1, l2, l3, l4⟩ := focus k3 hp
      rw [hv] at l1; cases l1
      have nd1 := E.nd i
      rw [k2] at nd1
      have ndB1 : B1.Nodup := (List.nodup_append.mp (List.nodup_append.mp nd1).2.1).1
      have ndB2 : B2.Nodup := by rw [l2] at ndB1; exact (List.nodup_append.mp (List.nodup_append.mp ndB1).2.1).1
      have in1 : ∀ b ∈ B1, b ∈ fp i := fun b z => by rw [k2]; exact List.mem_append_right _ (List.mem_append_left _ z)
      have in2 : ∀ b ∈ B2, b ∈ B1 := fun b z => by rw [l2]; exact List.mem_append_right _ (List.mem_append_left _ z)
      obtain ⟨haB2, B3, q3, _, _⟩ := ht B2 l3 ndB2 fun b hb z => hA b hb ⟨i, in1 b (in2 b z)⟩
      have o1 : ∀ b, b ∈ pre1 ∨ b ∈ post1 → b ≠ a := fun b z e => by
        subst e
        rcases z with z | z
        · exact (List.nodup_append.mp nd1).2.2 b z b (List.mem_append_left _ (in2 b haB2)) rfl
        · exact (List.nodup_append.mp (List.nodup_append.mp nd1).2.1).2.2 b (in2 b haB2) b z rfl
      rw [l2] at ndB1
      have o2 : ∀ b, b ∈ pre2 ∨ b ∈ post2 → b ≠ a := fun b z e => by
        subst e
        rcases z with z | z
        · exact (List.nodup_append.mp ndB1).2.2 b z b (List.mem_append_left _ haB2) rfl
        · exact (List.nodup_append.mp (List.nodup_append.mp ndB1).2.1).2.2 b haB2 b z rfl
      have m1 : ∀ b, b ∈ pre1 ∨ b ∈ post1 → b ∈ fp i := fun b z => by
        rw [k2]
        rcases z with z | z
        · exact List.mem_append_left _ z
        · exact List.mem_append_right _ (List.mem_append_right _ z)
      have m2 : ∀ b, b ∈ pre2 ∨ b ∈ post2 → b ∈ fp i := fun b z => in1 b (by
        rw [l2]
        rcases z with z | z
        · exact List.mem_append_left _ z
        · exact List.mem_append_right _ (List.mem_append_right _ z))
      obtain ⟨n1, _⟩ := l4 F (upd H a o) t'' B3 (Same.refl _) (fun b z => ⟨upd_ne (o2 b z), hfree b (m2 b z)⟩) q3
      obtain ⟨_, n2⟩ := k4 F (upd H a o) _ _ (Same.refl _) (fun b z => ⟨upd_ne (o1 b z), hfree b (m1 b z)⟩) n1
      exact ⟨_, u, v1, by rw [put_app c1]; exact put_at c1, hu, c3, n2⟩
    · rw [List.getElem?_set_ne hk] at h2
      obtain ⟨tp, u1, v1, c1, c2, c3, c4⟩ := E.al j k pa tt h1 h2
      obtain ⟨u', e, qk⟩ := E.sl k _ h2
      rw [c2] at e; cases e
      exact ⟨tp, u1, v1, c1, c2, c3, path_stays qk c1 c4 fun b hb => upd_ne (neJ k (Ne.symm hk) b hb)⟩
  refine ⟨fset fp i (pre ++ (B' ++ post)), ⟨⟨⟨?_, by rw [List.length_set]; exact E.len, fun j s hs => ?_, fun j hj => ?_, fun j => ?_, fun j l b h1 h2 => ?_, E.tb.upd (E.ntb ⟨i, haO⟩), alK⟩, s1.st.fr, s1.st.nf, fun b hb => ?_, fun b ob hb hn nt => ?_, fun b hb => ?_, fun j mj tj hj hmj => ?_, fun j tj hj => ?_⟩, fun j mj tj hj => ?_, fun j hj => ?_⟩, ow⟩
  · intro b ob e
    rw [upd_ne fun z => by subst z; rw [hfree b haO] at e; cases e]
    exact E.sub b ob e
  · by_cases hji : i = j
    · subst hji
      rw [List.getElem?_set_self hil] at hs
      cases hs
      unfold fset
      rw [if_pos rfl]
      exact ⟨u, hu, qn⟩
    · rw [List.getElem?_set_ne hji] at hs
      unfold fset
      rw [if_neg (Ne.symm hji)]
      have qj := E.sl j s hs
      cases s with
      | no => trivial
      | al _ _ => trivial
      | val d => exact qj
      | own mj tj =>
        obtain ⟨w, e1, e2⟩ := qj
        exact ⟨w, e1, e2.move (Same.refl _) fun b hb => ⟨upd_ne (neJ j (Ne.symm hji) b hb), (e2.mem b hb).2⟩⟩
  · unfold fset
    by_cases hji : j = i
    · subst hji
      exact absurd (List.getElem?_set_self hil) (hj m _)
    · rw [if_neg hji]
      refine E.nil j fun mj tj z => hj mj tj ?_
      rw [List.getElem?_set_ne (Ne.symm hji)]
      exact z
  · unfold fset
    split
    · exact hndn
    · exact E.nd j
  · unfold fset at h1 h2
    split at h1
    · split at h2
      · omega
      · rename_i h3 h4
        rcases mem' b h1 with z | z
        · exact absurd (E.ap i l b z h2).symm h4
        · exact absurd ⟨l, h2⟩ (hA b z)
    · split at h2
      · rename_i h3 h4
        rcases mem' b h2 with z | z
        · exact absurd (E.ap j i b h1 z) h3
        · exact absurd ⟨j, h1⟩ (hA b z)
      · exact E.ap j l b h1 h2
  · by_cases e : b = a
    · subst e; rw [upd_same] at hb; cases hb
    · rw [upd_ne e] at hb; exact s1.st.dom b hb
  · have e : b ≠ a := fun z => by
      subst z
      rcases s1.st.own b ⟨i, haO⟩ with w | w
      · exact hn w
      · rw [hb] at w; cases w
    rw [upd_ne e]
    exact s1.st.frame b ob hb hn nt
  · rcases ow b hb with z | z
    · exact s1.st.own b z
    · exact (hw b z).symm
  · obtain ⟨_, m1, t1, h1, k1⟩ := s1.st.pin j mj tj hj hmj
    by_cases hji : i = j
    · subst hji
      rw [hi] at h1; cases h1
      exact ⟨rfl, _, _, List.getElem?_set_self hil, k1⟩
    · exact ⟨rfl, m1, t1, by rw [List.getElem?_set_ne hji]; exact h1, k1⟩
  · obtain ⟨_, h1, h2, h3⟩ := s1.st.lock j tj hj
    have hji : i ≠ j := fun z => by subst z; rw [hi] at h1; cases h1; exact hm.1 rfl
    refine ⟨rfl, by rw [List.getElem?_set_ne hji]; exact h1, ?_, fun b hb => ?_⟩
    · unfold fset; rw [if_neg (Ne.symm hji)]; exact h2
    · rw [upd_ne (neJ j (Ne.symm hji) b (by rw [h2]; exact hb))]; exact h3 b hb
  · obtain ⟨t1, h1⟩ := s1.ko j mj tj hj
    by_cases hji : i = j
    · subst hji
      rw [hi] at h1; cases h1
      exact ⟨_, List.getElem?_set_self hil⟩
    · exact ⟨t1, by rw [List.getElem?_set_ne hji]; exact h1⟩
  · have hji : i ≠ j := fun z => hj (List.mem_append_right _ (by simp [z]))
    obtain ⟨h1, h2, h3⟩ := s1.un j fun z => hj (List.mem_append_left _ z)
    refine ⟨by rw [List.getElem?_set_ne hji]; exact h1, ?_, fun b hb => ?_⟩
    · unfold fset; rw [if_neg (Ne.symm hji)]; exact h2
    · rw [upd_ne (neJ j (Ne.symm hji) b (by rw [h2]; exact hb))]; exact h3 b hb

/-! ### expressions that are places -/
def rlP (K : Fg) : Rl K (Nat × List Nat) V := ⟨fun _ _ _ H' _ σ ρ' v r => ∃ u m t t', sg σ r.1 = some u ∧ ρ'[r.1]? = some (Sl.own m t) ∧ t.at r.2 = some t' ∧ pathV H' u r.2 = some v, fun _ h => h⟩
def VP (X : Cx) (T : List Nat) (W : WV) (e : Expr) (f : M (Nat × List Nat)) : Prop := PE X e (fun σ H Q => TVg T W (rlP X.K) f σ H Q)
def pVar (i : Nat) : M (Nat × List Nat) := fun ρ => match ρ[i]? with
  | some (.own _ _) => some (.ok (i, []) ρ)
  | _ => none
/-- the tree at a place -/
def treeAt (ρ : Rho) (r : Nat × List Nat) : Option Tr := match ρ[r.1]? with
  | some (.own _ t) => t.at r.2
  | _ => none
section
variable {X : Cx} {T T1 T2 : List Nat} {W : WV} {fa fb : M Rv} {fp1 : M (Nat × List Nat)} {a b e : Expr} {pos : Pos}
theorem vp_var (i : Nat) {x : Str} {pos : Pos} (hN : X.N[i]? = some x := by rfl) (hv : Vis X.env.scope x := by first | exact Or.inl rfl | exact Or.inr (Or.inl rfl) | exact Or.inr (Or.inr rfl)) (hd : (x == ("__debug__" : Str)) = false := by decide)
    (hcd : (x == ("__classdict__" : Str)) = false := by decide) : VP X [] W (.Name x pos) (pVar i) := by
  refine pe_imp (pe_var hN hv hd hcd) fun σ H Q ⟨F, ρ, fp, o, E, e, P⟩ => ?_
  unfold pVar at e
  split at e
  · rename_i m t h
    cases ok_inj e
    obtain ⟨u, hu, q⟩ := E.sl i _ h
    exact ⟨u, sg_some.mp hu, P u H F fp (.refl E) ⟨u, m, t, t, hu, h, rfl, rfl⟩⟩
  · cases e
/-- a place behind a step that doesn't touch it -/
theorem place_step {K : Fg} {F H F1 H1 : Hp} {σ : Sg} {ρ ρ1 : Rho} {fp fp1 : FP} {v : V} {r : Nat × List Nat} (E : EnvOk K F H σ ρ fp) (s : EStep K T F H σ ρ fp F1 H1 ρ1 fp1) (hT : r.1 ∉ T)
    (h : ∃ u m t t', sg σ r.1 = some u ∧ ρ[r.1]? = some (Sl.own m t) ∧ t.at r.2 = some t' ∧ pathV H u r.2 = some v) : ∃ u m t t', sg σ r.1 = some u ∧ ρ1[r.1]? = some (Sl.own m t) ∧ t.at r.2 = some t' ∧ pathV H1 u r.2 = some v := by
  obtain ⟨u, m, t, t', h1, h2, h3, h4⟩ := h
  obtain ⟨a1, a2, a3⟩ := s.un r.1 hT
  obtain ⟨u', e1, q⟩ := E.sl r.1 _ h2
  rw [h1] at e1; cases e1
  exact ⟨u, m, t, t', h1, by rw [a1]; exact h2, h3, path_stays q h3 h4 a3⟩
/-- what stands there -/
theorem place_get {K : Fg} {F H : Hp} {σ : Sg} {ρ : Rho} {fp : FP} {v : V} {r : Nat × List Nat} {t0 : Tr} (E : EnvOk K F H σ ρ fp) (h : ∃ u m t t', sg σ r.1 = some u ∧ ρ[r.1]? = some (Sl.own m t) ∧ t.at r.2 = some t' ∧ pathV H u r.2 = some v) (ht : treeAt ρ r = some t0) :
    ∃ B, TrOk K F H v t0 B ∧ ∀ b ∈ B, b ∈ fp r.1 := by
  obtain ⟨u, m, t, t', h1, h2, h3, h4⟩ := h
  unfold treeAt at ht
  rw [h2] at ht
  simp only [h3] at ht
  cases ht
  obtain ⟨u', e1, q⟩ := E.sl r.1 _ h2
  rw [h1] at e1; cases e1
  obtain ⟨v', pre, B, post, g1, g2, g3, g4⟩ := focus q h3
  rw [h4] at g1; cases g1
  exact ⟨B, g3, fun b z => by rw [g2]; exact List.mem_append_right _ (List.mem_append_left _ z)⟩
/-- data at a place -/
def cLeaf (f : M (Nat × List Nat)) : M Rv := bnd f fun r => fun ρ => match treeAt ρ r with
  | some (.dat d) => some (.ok (.d d) ρ)
  | _ => none
theorem ve_leaf (h : VP X T W e fp1) : VE X T W e (cLeaf fp1) := pe_imp h fun σ H Q ⟨F, ρ, fp, o, E, q, P⟩ => by
  refine tv_bnd E q P (fun i hi => hi) fun r ρ1 v H1 F1 fp1 s1 r1 e1 P1 => ?_
  split at e1
  · rename_i d hd
    cases ok_inj e1
    obtain ⟨B, q, _⟩ := place_get s1.env r1 hd
    cases q with
    | dat q => exact P1 _ H1 F1 fp1 (.refl s1.env) q
  · cases e1
/-- an item of a list or a tuple -/
def pIx (T2 : List Nat) (f : M (Nat × List Nat)) (g : M Rv) : M (Nat × List Nat) := bnd f fun r => bnd g fun y => fun ρ => if T2.contains r.1 then none else match treeAt ρ r, y with
  | some (.lst ts), .d (.int n) => (match ixN ts.length n with
    | some j => some (.ok (r.1, r.2 ++ [j]) ρ)
    | none => none)
  | some (.tup ts), .d (.int n) => (match ixN ts.length n with
    | some j => some (.ok (r.1, r.2 ++ [j]) ρ)
    | none => none)
  | _, _ => none
theorem at_app {t' : Tr} : ∀ {p : List Nat} {t : Tr}, t.at p = some t' → ∀ (j : Nat), t.at (p ++ [j]) = (kids t')[j]?
  | [], t, h, j => by
    simp only [Tr.at] at h
    cases h
    simp only [List.nil_append, Tr.at]
    cases q : (kids t')[j]? <;> simp
  | i :: p, t, h, j => by
    simp only [Tr.at, List.cons_append] at h ⊢
    cases q : (kids t)[i]? with
    | none => rw [q] at h; cases h
    | some k => rw [q] at h; exact at_app h j
theorem pathV_app {H : Hp} {w : V} : ∀ {p : List Nat} {v : V}, pathV H v p = some w → ∀ (j : Nat), pathV H v (p ++ [j]) = (kidsV H w)[j]?
  | [], v, h, j => by
    simp only [pathV] at h
    cases h
    simp only [List.nil_append, pathV]
    cases q : (kidsV H w)[j]? <;> simp
  | i :: p, v, h, j => by
    simp only [pathV, List.cons_append] at h ⊢
    cases q : (kidsV H v)[i]? with
    | none => rw [q] at h; cases h
    | some k => rw [q] at h; exact pathV_app h j
theorem atI_of {α : Type} {xs : List α} {n : Int} {j : Nat} (h : ixN xs.length n = some j) : atI xs n = xs[j]? := by
  unfold atI
  rw [h]
  rfl
theorem ixN_lt {m : Nat} {n : Int} {j : Nat} (h : ixN m n = some j) : j < m := by
  unfold ixN at h
  split at h
  · split at h
    · cases h; omega
    · cases h
  · split at h
    · cases h; omega
    · cases h
theorem place_kid {K : Fg} {H : Hp} {σ : Sg} {ρ : Rho} {v w : V} {r : Nat × List Nat} {t0 : Tr} {j : Nat} (h : ∃ u m t t', sg σ r.1 = some u ∧ ρ[r.1]? = some (Sl.own m t) ∧ t.at r.2 = some t' ∧ pathV H u r.2 = some v) (ht : treeAt ρ r = some t0) (hj : j < (kids t0).length) (hw : (kidsV H v)[j]? = some w) :
    ∃ u m t t', sg σ r.1 = some u ∧ ρ[r.1]? = some (Sl.own m t) ∧ t.at (r.2 ++ [j]) = some t' ∧ pathV H u (r.2 ++ [j]) = some w := by
  obtain ⟨u, m, t, t', h1, h2, h3, h4⟩ := h
  unfold treeAt at ht
  rw [h2] at ht
  simp only [h3] at ht
  cases ht
  refine ⟨u, m, t, (kids t0)[j], h1, h2, ?_, ?_⟩
  · rw [at_app h3, List.getElem?_eq_getElem hj]
  · rw [pathV_app h4]; exact hw
theorem vp_ix (ha : VP X T1 W a fp1) (hb : VE X T2 W b fb) (hs : PlainIx b := by intro _ _; rfl) : VP X (T1 ++ T2) W (.Subscript a b pos) (pIx T2 fp1 fb) :=
  pe_imp (pe_ix ix_seq ha hb hs) fun σ H Q ⟨F, ρ, fp, o, E, e, P⟩ => by
    refine tv_bnd E e P (fun i hi => List.mem_append_left _ hi) fun r ρ1 v H1 F1 fp1 s1 r1 e1 P1 => ?_
    refine tv_bnd s1.env e1 P1 (fun i hi => List.mem_append_right _ hi) fun y ρ2 w H2 F2 fp2 s2 r2 e2 P2 => ?_
    split at e2
    · cases e2
    · rename_i hT
      have hT' : r.1 ∉ T2 := fun z => hT (List.contains_iff_mem.mpr z)
      have pl := place_step s1.env s2 hT' r1
      split at e2
      · rename_i ts n ht
        split at e2
        · rename_i j hj
          cases ok_inj e2
          obtain ⟨B, q, _⟩ := place_get s2.env pl ht
          cases r2
          cases q with
          | @lst a0 vs _ A h1 h2 h3 =>
            have hl := h3.len
            have hjl := ixN_lt hj
            refine .inl ⟨a0, vs, n, vs[j]'(by omega), rfl, rfl, SqL.of h1, ?_, P2 _ H2 F2 fp2 (.refl s2.env) ?_⟩
            · rw [atI_of (by rw [hl]; exact hj), List.getElem?_eq_getElem]
            · exact place_kid (K := X.K) pl ht hjl (by simp [kidsV, h1, List.getElem?_eq_getElem, hl, hjl])
        · cases e2
      · rename_i ts n ht
        split at e2
        · rename_i j hj
          cases ok_inj e2
          obtain ⟨B, q, _⟩ := place_get s2.env pl ht
          cases r2
          cases q with
          | @tup a0 vs _ A h1 h2 h3 =>
            have hl := h3.len
            have hjl := ixN_lt hj
            refine .inr (.inl ⟨a0, vs, n, vs[j]'(by omega), rfl, rfl, SqT.of h1, ?_, P2 _ H2 F2 fp2 (.refl s2.env) ?_⟩)
            · rw [atI_of (by rw [hl]; exact hj), List.getElem?_eq_getElem]
            · exact place_kid (K := X.K) pl ht hjl (by simp [kidsV, h1, List.getElem?_eq_getElem, hl, hjl])
        · cases e2
      · cases e2

/-! ### writes -/
def modeOk (ρ : Rho) (i : Nat) : Bool := match ρ[i]? with
  | some (.own .lock _) => false
  | some (.own (.bor _) _) => false
  | some (.own _ _) => true
  | _ => false
/-- the tree at a place is put otherwise -/
def putAt (ρ : Rho) (r : Nat × List Nat) (t' : Tr) : Rho := match ρ[r.1]? with
  | some (.own m t) => ρ.set r.1 (.own m (t.put r.2 t'))
  | _ => ρ
/-- place.append(e), a tree coming in -/
def app1 (T2 : List Nat) (r : Nat × List Nat) (tn : Tr) : MS := fun ρ => if T2.contains r.1 || !modeOk ρ r.1 then none else match treeAt ρ r with
  | some (.lst ts) => if small (ts.length + 1) then some (.nx (putAt ρ r (.lst (ts ++ [tn])))) else none
  | _ => none
def isLst : Option Tr → Bool
  | some (.lst _) => true
  | _ => false
def sApp (T2 : List Nat) (f : M (Nat × List Nat)) (g : M Tr) : MS := sE f fun r => fun ρ => if isLst (treeAt ρ r) then sE g (app1 T2 r) ρ else none
/-- place.extend(e), a list of data -/
def ext1 (T2 : List Nat) (r : Nat × List Nat) (x : Rv) : MS := fun ρ => if T2.contains r.1 || !modeOk ρ r.1 then none else match treeAt ρ r, x with
  | some (.lst ts), .d (.list ds) => if small (ts.length + ds.length) then some (.nx (putAt ρ r (.lst (ts ++ ds.map .dat)))) else none
  | _, _ => none
def sExt (T2 : List Nat) (f : M (Nat × List Nat)) (g : M Rv) : MS := sE f fun r => fun ρ => if isLst (treeAt ρ r) then sE g (ext1 T2 r) ρ else none
end
theorem mode_of {ρ : Rho} {i : Nat} {m : Md} {t : Tr} {r : List Nat} (h : modeOk ρ i = true) (e : ρ[i]? = some (.own m t)) : m.wr r := by
  unfold modeOk at h
  rw [e] at h
  cases m with
  | lock => cases h
  | bor _ => cases h
  | free => exact ⟨(fun z => nomatch z), (fun p z => nomatch z)⟩
  | pin => exact ⟨(fun z => nomatch z), (fun p z => nomatch z)⟩
theorem touch_of {T2 : List Nat} {i : Nat} {ρ : Rho} (h : ¬ (T2.contains i || !modeOk ρ i) = true) : i ∉ T2 ∧ modeOk ρ i = true := by
  cases h1 : T2.contains i with
  | true => rw [h1] at h; exact absurd rfl h
  | false =>
    cases h2 : modeOk ρ i with
    | false => rw [h1, h2] at h; exact absurd rfl h
    | true => exact ⟨fun z => (by rw [List.contains_iff_mem.mpr z] at h1; cases h1), rfl⟩
theorem trs_app {K : Fg} {F H : Hp} {v : V} {t : Tr} {A : List Addr} (q : TrOk K F H v t A) : ∀ {vs : List V} {ts : List Tr} {B : List Addr}, TrsOk K F H vs ts B → TrsOk K F H (vs ++ [v]) (ts ++ [t]) (B ++ A)
  | _, _, _, .nil => by
    have := TrsOk.cons q (TrsOk.nil)
    simpa using this
  | _, _, _, .cons h r => by
    have := TrsOk.cons h (trs_app q r)
    simpa [List.append_assoc] using this
section
variable {X : Cx} {T T1 T2 : List Nat} {W : WV} {fp1 : M (Nat × List Nat)} {fn : M Tr} {o e : Expr} {pos apos cpos : Pos}
theorem tyL {K : Fg} {H : Hp} {a : Addr} {vs : List V} (h : H a = some (.lst vs)) : tyV K "list" (.ref a) H := Or.inl ⟨rfl, _, Or.inl (Or.inl h)⟩
theorem trs_apps {K : Fg} {F H : Hp} {ws : List V} {us : List Tr} {A : List Addr} (q : TrsOk K F H ws us A) : ∀ {vs : List V} {ts : List Tr} {B : List Addr}, TrsOk K F H vs ts B → TrsOk K F H (vs ++ ws) (ts ++ us) (B ++ A)
  | _, _, _, .nil => by simpa using q
  | _, _, _, .cons h r => by
    have := TrsOk.cons h (trs_apps q r)
    simpa [List.append_assoc] using this
/-- the list at a place is written: xs and their trees come behind -/
theorem mut_lst {K : Fg} {F0 H0 F H : Hp} {σ : Sg} {ρ0 ρ : Rho} {fp0 fp : FP} {r : Nat × List Nat} {v : V} {ts us : List Tr} {A : List Addr} {ws : List V} (s1 : EStep K T F0 H0 σ ρ0 fp0 F H ρ fp) (hm : modeOk ρ r.1 = true)
    (pl : ∃ u m t t', sg σ r.1 = some u ∧ ρ[r.1]? = some (Sl.own m t) ∧ t.at r.2 = some t' ∧ pathV H u r.2 = some v) (ht : treeAt ρ r = some (.lst ts)) (hA : ∀ b ∈ A, ¬ Owns fp b) (hnA : A.Nodup) (hw : ∀ b ∈ A, H0 b = none ∨ Owns fp0 b) (q : TrsOk K F H ws us A) :
    ∃ a vs, v = .ref a ∧ H a = some (.lst vs) ∧ vs.length = ts.length ∧ ∃ fp', EStep K (T ++ [r.1]) F0 H0 σ ρ0 fp0 F (upd H a (.lst (vs ++ ws))) (putAt ρ r (.lst (ts ++ us))) fp' := by
  obtain ⟨B, qB, hB⟩ := place_get s1.env pl ht
  obtain ⟨u, m, t, t', h1, h2, h3, h4⟩ := pl
  have ht' : t.at r.2 = some (.lst ts) := by
    unfold treeAt at ht
    rw [h2] at ht
    exact ht
  cases qB with
  | @lst a vs _ B0 e1 e2 e3 =>
    refine ⟨a, vs, rfl, e1, e3.len, ?_⟩
    obtain ⟨fp', st, _⟩ := mut_step (o := .lst (vs ++ ws)) (t'' := .lst (ts ++ us)) s1 h2 (mode_of hm h2) h1 ht' h4 hA hnA hw fun B1 q1 nB1 dj => by
      cases q1 with
      | @lst a _ _ B2 f1 f2 f3 =>
        rw [e1] at f1; cases f1
        have nd := List.nodup_cons.mp nB1
        have aA : ∀ b ∈ A, b ≠ a := fun b hb z => by subst z; exact dj b hb List.mem_cons_self
        refine ⟨List.mem_cons_self, a :: (B2 ++ A), .lst upd_same f2 (trs_apps (q.move (Same.refl _) fun b hb => ⟨upd_ne (aA b hb), (q.mem b hb).2⟩) (f3.move (Same.refl _) fun b hb => ⟨upd_ne fun z => by subst z; exact nd.1 hb, (f3.mem b hb).2⟩)), ?_, fun b hb => ?_⟩
        · refine List.nodup_cons.mpr ⟨fun z => ?_, List.nodup_append.mpr ⟨nd.2, hnA, fun b hb c hc e => ?_⟩⟩
          · rcases List.mem_append.mp z with z | z
            · exact nd.1 z
            · exact aA a z rfl
          · subst e
            exact dj b hc (List.mem_cons_of_mem _ hb)
        · rcases List.mem_cons.mp hb with z | z
          · exact .inl (by rw [z]; exact List.mem_cons_self)
          · exact (List.mem_append.mp z).imp_left (List.mem_cons_of_mem _)
    refine ⟨fp', ?_⟩
    have e : putAt ρ r (.lst (ts ++ us)) = ρ.set r.1 (.own m (t.put r.2 (.lst (ts ++ us)))) := by
      unfold putAt
      rw [h2]
    rw [e]
    exact st
theorem isLst_some {o : Option Tr} (h : isLst o = true) : ∃ ts, o = some (.lst ts) := by
  unfold isLst at h
  split at h
  · exact ⟨_, rfl⟩
  · cases h
theorem place_list {K : Fg} {F H : Hp} {σ : Sg} {ρ : Rho} {fp : FP} {v : V} {r : Nat × List Nat} (E : EnvOk K F H σ ρ fp) (h : ∃ u m t t', sg σ r.1 = some u ∧ ρ[r.1]? = some (Sl.own m t) ∧ t.at r.2 = some t' ∧ pathV H u r.2 = some v) (ht : isLst (treeAt ρ r) = true) : tyV K "list" v H := by
  obtain ⟨ts, e⟩ := isLst_some ht
  obtain ⟨B, q, _⟩ := place_get E h e
  cases q with
  | lst h1 _ _ => exact tyL h1
theorem vs_app (h : PE X (.Call (.Attribute o "append" apos) [e] [] cpos) (tBM X.K "list" rAppend (fun σ H Q => TVg T1 W (rlP X.K) fp1 σ H Q) (tCons (tVN X.K T2 W fn) tNil)))
    (hs : swapsWith (.Call (.Attribute o "append" apos) [e] [] cpos) none pos.line X.env = pure false := by rfl) :
    VS X W (.Expr (.Call (.Attribute o "append" apos) [e] [] cpos) pos) (sApp T2 fp1 fn) :=
  ps_imp (ps_expr h hs) fun D σ H ⟨F, ρ, fp, ou, E, q, P⟩ => by
    refine tv_st E q P fun r ρ1 v H1 F1 fp1 s1 r1 e1 P1 => ?_
    split at e1
    · rename_i hl
      refine ⟨place_list s1.env r1 hl, ?_⟩
      refine tv_st (T := T2) s1.env e1 P1 fun tn ρ2 w H2 F2 fp2 s2 ⟨A, n⟩ e2 _ => ?_
      unfold app1 at e2
      split at e2
      · cases e2
      · rename_i hc
        obtain ⟨hT, hc'⟩ := touch_of hc
        have pl := place_step s1.env s2 hT r1
        split at e2
        · rename_i ts hts
          split at e2
          · rename_i hz
            cases (Option.some.inj e2)
            obtain ⟨a, vs, rfl, ha, hlen, fp', st⟩ := mut_lst s2 hc' pl hts n.out n.nd n.new (ws := [w]) (us := [tn]) (by have := TrsOk.cons n.ok TrsOk.nil; simpa using this)
            refine ⟨a, vs, w, rfl, rfl, ha, ?_, P1 σ _ F2 fp' st.st⟩
            have := small_iff.mp hz
            omega
          · cases e2
        · cases e2
    · cases e1
/-- list.extend, what comes in being read -/
def rExtR : V → List V → Hp → VK → Prop := fun x vs H Q => ∃ l b xs zs, x = .ref l ∧ vs = [.ref b] ∧ H l = some (.lst xs) ∧ Rd H b (.lst zs) ∧ xs.length + zs.length ≤ sizeLine ∧ Q .non (upd H l (.lst (xs ++ zs)))
theorem mt_extR : MtM X "list.extend" rExtR := by
  intro pins s σ H x vs v us Q I rx rv h
  obtain ⟨l, b, xs, zs, rfl, rfl, hH, hB, hz, q⟩ := h
  cases rx
  obtain ⟨u, rfl, ru⟩ := rv.one
  cases ru
  obtain ⟨z, its, n, r, hl, e⟩ := I.lstM hH
  obtain ⟨z2, its2, n2, r2, hl2, e2⟩ := lstR I hB
  have hsz : its.toArray.size + its2.toArray.size ≤ sizeLine := by rw [List.size_toArray, List.size_toArray]; omega
  have hlong : ¬ (!its.toArray.isEmpty && Builtin.List.listTooLong (its.toArray.size + its2.toArray.size)) = true := by
    rw [notLongL hsz, Bool.and_false]
    exact Bool.false_ne_true
  refine call_meets F.slot_list_extend ⟨_, e, rfl⟩ F.entry_list_extend (F.args_list_extend_2 _ _)
    (AutoSeq1.list_extend_list_list_0 l its.toArray n b its2.toArray n2 hlong (by rw [List.size_toArray]; omega) (by omega)) ⟨e, e2, ?_⟩
  refine ⟨.non, _, I.lset (its' := its ++ its2) hH e (by simp) (r.append r2) ?_, rfl, q⟩
  rw [List.length_append]
  omega
variable {fa : M Rv}
theorem vs_ext (h : PE X (.Call (.Attribute o "extend" apos) [e] [] cpos) (tBM X.K "list" rExtR (fun σ H Q => TVg T1 W (rlP X.K) fp1 σ H Q) (tCons (tV X.K T2 W fa) tNil)))
    (hs : swapsWith (.Call (.Attribute o "extend" apos) [e] [] cpos) none pos.line X.env = pure false := by rfl) :
    VS X W (.Expr (.Call (.Attribute o "extend" apos) [e] [] cpos) pos) (sExt T2 fp1 fa) :=
  ps_imp (ps_expr h hs) fun D σ H ⟨F, ρ, fp, ou, E, q, P⟩ => by
    refine tv_st E q P fun r ρ1 v H1 F1 fp1 s1 r1 e1 P1 => ?_
    split at e1
    · rename_i hl
      refine ⟨place_list s1.env r1 hl, ?_⟩
      refine tv_st (T := T2) s1.env e1 P1 fun x ρ2 w H2 F2 fp2 s2 r2 e2 _ => ?_
      unfold ext1 at e2
      split at e2
      · cases e2
      · rename_i hc
        obtain ⟨hT, hc'⟩ := touch_of hc
        have pl := place_step s1.env s2 hT r1
        split at e2
        · rename_i ts ds hts
          split at e2
          · rename_i hz
            cases (Option.some.inj e2)
            cases r2 with
            | @lst b zs _ hb hz2 =>
              obtain ⟨a, vs, rfl, ha, hlen, fp', st⟩ := mut_lst (A := []) s2 hc' pl hts (fun b hb => nomatch hb) List.nodup_nil (fun b hb => nomatch hb) (trs_dat (H := H2) hz2)
              refine ⟨a, b, vs, zs, rfl, rfl, ha, rd_mono s2.env.sub hb, ?_, P1 σ _ F2 fp' st.st⟩
              have := small_iff.mp hz
              rw [dqAll_len hz2]
              omega
          · cases e2
        · cases e2
    · cases e1
end
end VL

end

section
set_option Elab.async false
set_option linter.all false
set_option maxRecDepth 100000
namespace VL
open PySem PySem.Spec PyProof.Rows L2

/-! ### place[i] = data -/
section
variable {X : Cx} {T T1 T2 T3 : List Nat} {W : WV} {fp1 : M (Nat × List Nat)} {fa fb : M Rv} {o i e : Expr} {pos tpos : Pos}
def setIx1 (T2 : List Nat) (d : PyData) (r : Nat × List Nat) (y : Rv) : MS := fun ρ => if T2.contains r.1 || !modeOk ρ r.1 then none else match treeAt ρ r, y with
  | some (.lst ts), .d (.int n) => (match ixN ts.length n with
    | some j => some (.nx (putAt ρ r (.lst (ts.set j (.dat d)))))
    | none => none)
  | _, _ => none
def sSetIx (T2 : List Nat) (fe : M Rv) (f : M (Nat × List Nat)) (fi : M Rv) : MS := sE fe fun x => match x with
  | .d d => sE f fun r => sE fi (setIx1 T2 d r)
  | .o _ => fun _ => none
theorem vs_setIx (he : VE X T1 W e fa) (ho : VP X T2 W o fp1) (hi : VE X T3 W i fb)
    (ha : ∀ v, assign (.Subscript o i tpos) X.env v = (do
      let ov ← holding [v] (eval o X.env)
      let iv ← holding [v, ov] (eval i X.env)
      standAt tpos
      holding [v, ov, iv] (setItem ov iv v)
      release [v, ov, iv] []) := by intro _; rfl)
    (hs : swapsWithSole [.Subscript o i tpos] e pos.line X.env = pure false := by rfl) (hw : swappedStores [.Subscript o i tpos] e X.env = pure none := by rfl)
    (h1 : (assignEach [.Subscript o i tpos] X.env).map (·.2) = [assign (.Subscript o i tpos) X.env] := by rfl) : VS X W (.Assign [.Subscript o i tpos] e pos) (sSetIx T3 fa fp1 fb) :=
  ps_imp (ps_asg he (pg_sub ho hi set_list ha) hs hw h1) fun D σ H ⟨F, ρ, fp, ou, E, q, P⟩ => by
    refine tv_st E q P fun x ρ1 v H1 F1 fp1 s1 r1 e1 P1 => ?_
    cases x with
    | o _ => cases e1
    | d d =>
      refine tv_st (T := T2) s1.env e1 P1 fun r ρ2 w H2 F2 fp2 s2 r2 e2 P2 => ?_
      refine tv_st (T := T3) s2.env e2 P2 fun y ρ3 z H3 F3 fp3 s3 r3 e3 _ => ?_
      unfold setIx1 at e3
      split at e3
      · cases e3
      · rename_i hc
        obtain ⟨hT, hc'⟩ := touch_of hc
        have pl := place_step s2.env s3 hT r2
        split at e3
        · rename_i ts n hts
          split at e3
          · rename_i j hj
            cases (Option.some.inj e3)
            cases r3
            have hd3 : Dq X.K F3 v d := dq_mono (s2.st.fr.trans s3.st.fr) _ _ r1
            obtain ⟨B, qB, hB⟩ := place_get s3.env pl hts
            obtain ⟨u, m, t, t', h1, h2, h3, h4⟩ := pl
            have ht' : t.at r.2 = some (.lst ts) := by
              unfold treeAt at hts
              rw [h2] at hts
              exact hts
            have hjl := ixN_lt hj
            cases qB with
            | @lst a vs _ B0 f1 f2 f3 =>
              have hlen := f3.len
              obtain ⟨fp', st, _⟩ := mut_step (A := []) (o := .lst (vs.set j v)) (t'' := .lst (ts.set j (.dat d))) s3 h2 (mode_of hc' h2) h1 ht' h4 (fun b hb => nomatch hb) List.nodup_nil (fun b hb => nomatch hb) fun B1 q1 nB1 _ => by
                cases q1 with
                | @lst a _ _ B2 g1 g2 g3 =>
                  rw [f1] at g1; cases g1
                  have nd := List.nodup_cons.mp nB1
                  obtain ⟨w1, pre, Bj, post, k1, k2, k3, k4⟩ := trs_repl (j := j) g3 (List.getElem?_eq_getElem hjl)
                  refine ⟨List.mem_cons_self, a :: (pre ++ post), ?_, ?_, fun b hb => ?_⟩
                  · refine .lst upd_same g2 ?_
                    have sub : ∀ b, b ∈ pre ∨ b ∈ post → b ∈ B2 := fun b hb => by
                      rw [k2]
                      rcases hb with z | z
                      · exact List.mem_append_left _ z
                      · exact List.mem_append_right _ (List.mem_append_right _ z)
                    have z := k4 F3 (upd H3 a (.lst (vs.set j v))) v (.dat d) [] (Same.refl _) (fun b hb => ⟨upd_ne fun z => by subst z; exact nd.1 (sub b hb), (g3.mem b (sub b hb)).2⟩) (.dat hd3)
                    exact z
                  · have nB2 := nd.2
                    rw [k2] at nB2
                    refine List.nodup_cons.mpr ⟨fun z => nd.1 ?_, ?_⟩
                    · rw [k2]
                      rcases List.mem_append.mp z with z | z
                      · exact List.mem_append_left _ z
                      · exact List.mem_append_right _ (List.mem_append_right _ z)
                    · exact List.nodup_append.mpr ⟨(List.nodup_append.mp nB2).1, (List.nodup_append.mp (List.nodup_append.mp nB2).2.1).2.1, fun b hb c hc => (List.nodup_append.mp nB2).2.2 b hb c (List.mem_append_right _ hc)⟩
                  · rcases List.mem_cons.mp hb with z | z
                    · exact .inl (by rw [z]; exact List.mem_cons_self)
                    · refine .inl (List.mem_cons_of_mem _ ?_)
                      rw [k2]
                      rcases List.mem_append.mp z with z | z
                      · exact List.mem_append_left _ z
                      · exact List.mem_append_right _ (List.mem_append_right _ z)
              have e : putAt ρ3 r (.lst (ts.set j (.dat d))) = ρ3.set r.1 (.own m (t.put r.2 (.lst (ts.set j (.dat d))))) := by
                unfold putAt
                rw [h2]
              refine ⟨a, vs, n, j, rfl, rfl, f1, by rw [hlen]; exact hj, P2 σ _ F3 fp' ?_⟩
              rw [e]
              exact st.st
          · cases e3
        · cases e3
end

/-! ### a written dict of texts: TABLE[e] -/
section
variable {X : Cx} {T : List Nat} {W : WV} {fa : M Rv} {e : Expr} {pos : Pos}
def tabD (tb : List (Str × PyData)) (x : Rv) : M Rv := fun ρ => match x with
  | .d (.str z) => (match tb.lookup z with
    | some d => some (.ok (.d d) ρ)
    | none => none)
  | _ => none
def cTab (tb : List (Str × PyData)) (f : M Rv) : M Rv := bnd f (tabD tb)
theorem ve_tab {tb : List (Str × PyData)} {x : Str} {p : Addr} {px : Pos} (hg : Gl X x) (hm : X.mg x = some (.ref p)) (hk : ∀ z d, tb.lookup z = some d → ∃ v, KDct X.K X.w p z v ∧ ∀ F, Dq X.K F v d) (he : VE X T W e fa) (hs : PlainIx e := by intro _ _; rfl) (hdb : (x == ("__debug__" : Str)) = false := by decide) :
    VE X T W (.Subscript (.Name x px) e pos) (cTab tb fa) :=
  pe_imp (pe_ix ix_kdict (pe_glob (v := .ref p) hg hm rfl hdb) he hs) fun σ H Q ⟨F, ρ, fp, o, E, q, P⟩ => by
    refine tv_bnd E q P (fun i hi => hi) fun y ρ1 v H1 F1 fp1 s1 r1 e1 P1 => ?_
    unfold tabD at e1
    split at e1
    · rename_i z
      split at e1
      · rename_i d hd
        cases ok_inj e1
        cases r1
        obtain ⟨w, h1, h2⟩ := hk z d hd
        exact ⟨p, z, w, rfl, rfl, h1, P1 _ H1 F1 fp1 (.refl s1.env) (h2 F1)⟩
      · cases e1
    · cases e1
end
section
variable {X : Cx} {T1 T2 T3 : List Nat} {W : WV} {fp1 : M (Nat × List Nat)} {fa : M Rv} {fn : M Tr} {o e : Expr} {apos cpos pos : Pos}
/-- place.append(e), place.extend(e), whole -/
theorem vs_appd (ho : VP X T1 W o fp1) (hn : VN X T2 W e fn) (hT : T2 = T3 := by rfl) (hbase : attributeBase o "append" X.env (eval o X.env) = eval o X.env := by rfl)
    (hfew : ((backTo cpos (starEach [e] X.env)).all (fun x => !x.1) && (backToKw cpos (keywordEach [] X.env)).all (fun x => x.1.isSome)
      && decide (([e] : List Expr).length + ([] : List Keyword).length + (if ([] : List Keyword).isEmpty then 0 else 1) < 30)) = true := by rfl)
    (hline : (apos.endLine == cpos.line) = true := by rfl) (hst : starEach [e] X.env = (false, eval e X.env) :: starEach [] X.env := by rfl) (hplain : (backTo cpos (starEach [] X.env)).any (·.1) = false := by rfl)
    (hs : swapsWith (.Call (.Attribute o "append" apos) [e] [] cpos) none pos.line X.env = pure false := by rfl) :
    VS X W (.Expr (.Call (.Attribute o "append" apos) [e] [] cpos) pos) (sApp T3 fp1 fn) :=
  hT ▸ vs_app (pe_bm PySem.F.plainAttrs_list PySem.F.slot_list_append PySem.F.type_list_append mt_append ho (pa_cons hn pa_nil hst) hbase hfew hline hst hplain) hs
theorem vs_extd (ho : VP X T1 W o fp1) (hn : VE X T2 W e fa) (hT : T2 = T3 := by rfl) (hbase : attributeBase o "extend" X.env (eval o X.env) = eval o X.env := by rfl)
    (hfew : ((backTo cpos (starEach [e] X.env)).all (fun x => !x.1) && (backToKw cpos (keywordEach [] X.env)).all (fun x => x.1.isSome)
      && decide (([e] : List Expr).length + ([] : List Keyword).length + (if ([] : List Keyword).isEmpty then 0 else 1) < 30)) = true := by rfl)
    (hline : (apos.endLine == cpos.line) = true := by rfl) (hst : starEach [e] X.env = (false, eval e X.env) :: starEach [] X.env := by rfl) (hplain : (backTo cpos (starEach [] X.env)).any (·.1) = false := by rfl)
    (hs : swapsWith (.Call (.Attribute o "extend" apos) [e] [] cpos) none pos.line X.env = pure false := by rfl) :
    VS X W (.Expr (.Call (.Attribute o "extend" apos) [e] [] cpos) pos) (sExt T3 fp1 fa) :=
  hT ▸ vs_ext (pe_bm PySem.F.plainAttrs_list PySem.F.slot_list_extend PySem.F.type_list_extend mt_extR ho (pa_cons hn pa_nil hst) hbase hfew hline hst hplain) hs
end
/-- a slot is put otherwise; aliases of others stay -/
theorem al_set {K : Fg} {F H : Hp} {σ : Sg} {ρ : Rho} {fp : FP} {i : Nat} {s : Sl} (E : EnvOk K F H σ ρ fp) (hi : i < ρ.length) (hp : plainSl s = true) : AlOk H σ (ρ.set i s) := E.al' (fun j k p h => by
    by_cases hji : i = j
    · subst hji
      rw [List.getElem?_set_self hi] at h
      cases h
      cases hp
    · rw [List.getElem?_set_ne hji] at h
      exact ⟨h, rfl⟩) fun k p t h => by
    by_cases hji : i = k
    · subst hji
      rw [List.getElem?_set_self hi] at h
      cases h
      cases hp
    · rw [List.getElem?_set_ne hji] at h
      exact ⟨h, rfl, fun _ _ => rfl⟩
/-! ### return x, x an owned local -/
section
variable {X : Cx} {W : WV} {pos pos' : Pos}
def sRetV (i : Nat) : MS := fun ρ => match ρ[i]? with
  | some (.val d) => some (.rt (.dat d) ρ)
  | some (.own .free t) => some (.rt t (ρ.set i .no))
  | _ => none
theorem vs_retV (i : Nat) {x : Str} (hN : X.N[i]? = some x := by rfl) (hv : Vis X.env.scope x := by first | exact Or.inl rfl | exact Or.inr (Or.inl rfl) | exact Or.inr (Or.inr rfl)) (hd : (x == ("__debug__" : Str)) = false := by decide)
    (hcd : (x == ("__classdict__" : Str)) = false := by decide) : VS X W (.Return (some (.Name x pos')) pos) (sRetV i) :=
  ps_imp (ps_ret (pe_var hN hv hd hcd)) fun D σ H ⟨F, ρ, fp, o, E, e, P⟩ => by
    unfold sRetV at e
    split at e
    · rename_i d h
      cases (Option.some.inj e)
      obtain ⟨u, hu, q⟩ := E.sl i _ h
      exact ⟨u, sg_some.mp hu, P u [] σ H F fp (.refl E) ⟨.dat q, List.nodup_nil, (fun b hb => nomatch hb), (fun b hb => nomatch hb)⟩⟩
    · rename_i t h
      cases (Option.some.inj e)
      obtain ⟨u, hu, q⟩ := E.sl i _ h
      have hi : i < ρ.length := (List.getElem?_eq_some_iff.mp h).1
      have alN : AlOk H σ (ρ.set i .no) := al_set E hi rfl
      refine ⟨u, sg_some.mp hu, P u (fp i) σ H F (fset fp i []) ⟨⟨E.sub, by rw [List.length_set]; exact E.len, fun j s hs => ?_, fun j hj => ?_, fun j => ?_, fun j l b h1 h2 => ?_, E.tb, alN⟩, Same.refl _, fun _ h h' => absurd h h', fun _ h => h, fun _ _ h _ _ => h, fun b hb => ?_, fun j mj tj hj hmj => ?_, fun j tj hj => ?_⟩ ⟨q, E.nd i, fun b hb => .inr ⟨i, hb⟩, fun b hb z => ?_⟩⟩
      · unfold fset
        by_cases hji : i = j
        · subst hji
          rw [List.getElem?_set_self hi] at hs
          cases hs
          trivial
        · rw [List.getElem?_set_ne hji] at hs
          rw [if_neg (Ne.symm hji)]
          exact E.sl j s hs
      · unfold fset
        by_cases hji : j = i
        · rw [if_pos hji]
        · rw [if_neg hji]
          refine E.nil j fun m t z => hj m t ?_
          rw [List.getElem?_set_ne (Ne.symm hji)]
          exact z
      · unfold fset
        split
        · exact List.nodup_nil
        · exact E.nd j
      · unfold fset at h1 h2
        split at h1
        · cases h1
        · split at h2
          · cases h2
          · exact E.ap j l b h1 h2
      · rcases hb.fset with z | z
        · cases z
        · exact .inl z
      · have hji : i ≠ j := fun z => by subst z; rw [h] at hj; cases hj; cases hmj
        exact ⟨rfl, mj, tj, by rw [List.getElem?_set_ne hji]; exact hj, hmj⟩
      · have hji : i ≠ j := fun z => by subst z; rw [h] at hj; cases hj
        refine ⟨rfl, by rw [List.getElem?_set_ne hji]; exact hj, ?_, fun _ _ => rfl⟩
        unfold fset
        rw [if_neg (Ne.symm hji)]
      · obtain ⟨j, hj⟩ := z
        unfold fset at hj
        split at hj
        · cases hj
        · rename_i hne
          exact hne (E.ap j i b hj hb)
    · cases e
end
/-! ### a ghost: an owned local is frozen -/
def frzSl (ρ : Rho) (i : Nat) : Option Rho := match ρ[i]? with
  | some (.own .free t) => (t.toD).map fun d => ρ.set i (.val d)
  | some (.val _) => some ρ
  | _ => none
def sFz (i : Nat) (g : MS) : MS := fun ρ => match frzSl ρ i with
  | some ρ1 => g ρ1
  | none => none
theorem vs_fz {X : Cx} {W : WV} {st : Stmt} {g : MS} (i : Nat) (h : VS X W st g) : VS X W st (sFz i g) := ps_imp h fun D σ H ⟨F, ρ, fp, o, E, e, P⟩ => by
  unfold sFz at e
  cases q : frzSl ρ i with
  | none => rw [q] at e; cases e
  | some ρ1 =>
    rw [q] at e
    unfold frzSl at q
    split at q
    · rename_i t ht
      obtain ⟨d, hd, rfl⟩ := map_some q
      obtain ⟨u, hu, qt⟩ := E.sl i _ ht
      have hi : i < ρ.length := (List.getElem?_eq_some_iff.mp ht).1
      have hA := qt.mem
      have s1 : Same F (frz F H (fp i)) := frz_same fun b hb => (hA b hb).2
      have alN : AlOk H σ (ρ.set i (.val d)) := al_set E hi rfl
      have st1 : Step X.K F H σ ρ fp (frz F H (fp i)) H σ (ρ.set i (.val d)) (fset fp i []) := by
        refine ⟨⟨frz_sub E.sub, by rw [List.length_set]; exact E.len, fun j s hs => ?_, fun j hj => ?_, fun j => ?_, fun j l b h1 h2 => ?_, E.tb.frz (fun b hb => (hA b hb).2) qt.ntb, alN⟩, s1, fun b h h' => ?_, fun _ h => h, fun _ _ h _ _ => h, fun b hb => ?_, fun j mj tj hj hmj => ?_, fun j tj hj => ?_⟩
        · unfold fset
          by_cases hji : i = j
          · subst hji
            rw [List.getElem?_set_self hi] at hs
            cases hs
            refine ⟨u, hu, qt.dp s1 (fun b hb => ?_) hd⟩
            unfold frz
            rw [if_pos hb]
          · rw [List.getElem?_set_ne hji] at hs
            rw [if_neg (Ne.symm hji)]
            have qj := E.sl j s hs
            cases s with
            | no => trivial
            | al _ _ => trivial
            | val d' => obtain ⟨w, e1, e2⟩ := qj; exact ⟨w, e1, dq_mono s1 _ _ e2⟩
            | own m t' =>
              obtain ⟨w, e1, e2⟩ := qj
              refine ⟨w, e1, e2.move s1 fun b hb => ⟨rfl, ?_⟩⟩
              unfold frz
              rw [if_neg fun z => hji (E.ap i j b z hb)]
              exact (e2.mem b hb).2
        · unfold fset
          by_cases hji : j = i
          · rw [if_pos hji]
          · rw [if_neg hji]
            refine E.nil j fun m t z => hj m t ?_
            rw [List.getElem?_set_ne (Ne.symm hji)]
            exact z
        · unfold fset
          split
          · exact List.nodup_nil
          · exact E.nd j
        · unfold fset at h1 h2
          split at h1
          · cases h1
          · split at h2
            · cases h2
            · exact E.ap j l b h1 h2
        · unfold frz at h'
          split at h'
          · rename_i hb
            exact .inr (.inl ⟨i, hb⟩)
          · exact absurd h h'
        · rcases hb.fset with z | z
          · cases z
          · exact .inl z
        · have hji : i ≠ j := fun z => by subst z; rw [ht] at hj; cases hj; cases hmj
          exact ⟨rfl, mj, tj, by rw [List.getElem?_set_ne hji]; exact hj, hmj⟩
        · have hji : i ≠ j := fun z => by subst z; rw [ht] at hj; cases hj
          refine ⟨rfl, by rw [List.getElem?_set_ne hji]; exact hj, ?_, fun _ _ => rfl⟩
          unfold fset
          rw [if_neg (Ne.symm hji)]
      exact ⟨_, _, _, o, st1.env, e, P.step st1⟩
    · cases q
      exact ⟨F, ρ, fp, o, E, e, P⟩
    · cases q
theorem hu65 {k : Nat} {A : Around} (r : Room k A) : A.units + 65 < cLine := by have := r.un; omega
theorem relV_abs {u : Value} {v : V} (h : absV u = some v) : RelV v u := by
  cases u <;> simp only [absV] at h <;> first | (cases h; rfl) | (cases h; exact ⟨_, rfl⟩) | cases h
theorem tab_ok {K : Fg} {w : World} {p : Addr} : ∀ {tb : List (Str × PyData)} (vs : List V), Paired (fun (q : Str × PyData) v => KDct K w p q.1 v ∧ ∀ F, Dq K F v q.2) tb vs → ∀ z d, tb.lookup z = some d → ∃ v, KDct K w p z v ∧ ∀ F, Dq K F v d
  | _, _, .nil, z, d, h => by cases h
  | (k, d0) :: tb, _, .cons q r, z, d, h => by
    rw [List.lookup_cons] at h
    split at h
    · rename_i e
      cases h
      have : z = k := by simpa using e
      subst this
      exact ⟨_, q⟩
    · exact tab_ok _ r z d h
theorem vals_abs : ∀ {us : List Value} {vs : List V}, us.map absV = vs.map some → Vals vs us
  | [], [], _ => .nil
  | [], _ :: _, h => by cases h
  | _ :: _, [], h => by cases h
  | u :: us, v :: vs, h => by
    simp only [List.map_cons, List.cons.injEq] at h
    exact .cons (relV_abs h.1) (vals_abs h.2)
theorem tup_size {its : Array Value} {vs : List V} (h : its.toList.map absV = vs.map some) (hz : vs.length ≤ sizeLine) : its.size ≤ sizeLine := by
  have := congrArg List.length h
  simp only [List.length_map, Array.length_toList] at this
  omega
theorem tup_vals {its : Array Value} {vs : List V} (h : its.toList.map absV = vs.map some) : Vals vs its.toList := vals_abs h
/-! ### the end: the law's def -/
def scrD (ns : List Int) : PyData := .dict (ns.map fun i => (.int i, .none))
/-- what is frozen at the start: all but the tables -/
def noTb (H : Hp) : Hp := fun b => match H b with
  | some (.tbl _) => none
  | x => x
theorem noTb_sub {H : Hp} : Same (noTb H) H := fun b o e => by
  unfold noTb at e
  split at e
  · cases e
  · exact e
theorem noTb_of {H : Hp} {b : Addr} {o : HO} (h : H b = some o) (n : ∀ ps, o ≠ .tbl ps) : noTb H b = some o := by
  unfold noTb
  rw [h]
  split
  · rename_i ps e
    exact absurd (Option.some.inj e) (n ps)
  · rfl
theorem noTb_seq {K : Fg} {H : Hp} {a : Addr} {xs : List V} (h : SqL K H a xs) : SqL K (noTb H) a xs := by
  rcases h with (h | ⟨o, h⟩) | h
  · exact .inl (.inl (noTb_of h fun _ z => nomatch z))
  · exact .inl (.inr ⟨o, noTb_of h fun _ z => nomatch z⟩)
  · exact .inr h
def Tb0 (K : Fg) (H : Hp) : Prop := ∀ c P, PySem.W.tabIn K "price_meant" = some (c, P) → H P = some (.tbl #[])
theorem tb0_ok {K : Fg} {H : Hp} (h : Tb0 K H) : TbOk K (noTb H) H := fun c P e => by
  have q := h c P e
  refine ⟨?_, #[], q, True.intro, fun pos cv z => ?_⟩
  · unfold noTb
    rw [q]
  · simp [codeAmong] at z
def spLaw (K : Fg) : Sp := fun vs H Q _ => ∃ (a : Addr) (ns : List Int), vs = [.ref a] ∧ SqL K H a (ns.map V.int) ∧ ns.length ≤ 63 ∧ Tb0 K H ∧ ∀ H', Q (.bl true) H'
theorem law_imp {K : Fg} {Wx : WX0} {F : Fn} (hF : ∀ ns : List Int, ns.length ≤ 63 → ∃ outs, F [.val (scrD ns)] = some (.ret (.dat (.bool true)), outs)) {vs : List V} {H : Hp} {Q : VK} {E : XK} (h : spLaw K vs H Q E) : spV K Wx 1 F vs H Q E := by
  obtain ⟨a, ns, rfl, hS, hl, h0, k⟩ := h
  obtain ⟨outs, e⟩ := hF ns hl
  refine ⟨rfl, noTb H, [.val (scrD ns)], fun _ => [], _, outs, ⟨noTb_sub, rfl, fun i s hs => ?_, fun _ _ => rfl, fun _ => List.nodup_nil, (fun _ _ _ h => nomatch h), tb0_ok h0, fun j i p t h _ => by
    match j, h with
    | 0, h => cases h
    | j + 1, h => simp at h⟩, e, fun v A H' F' fp' st n => ?_⟩
  · cases i with
    | zero =>
      cases hs
      exact ⟨.ref a, rfl, .scr (noTb_seq hS)⟩
    | succ i => simp at hs
  · generalize hA : A = A' at n
    have q := n.ok
    cases q with
    | dat q =>
      cases q
      exact k H'
/-- what the making of the lambda asks of price_meant's code object -/
def TbB (K : Fg) (base : Heap) (mg : Str → Option Value) : Prop := ∀ c P, PySem.W.tabIn K "price_meant" = some (c, P) → LamX.TabB base mg c P
theorem code_of_tab {K : Fg} {f c P : Addr} {oc : Value} {od : Option Addr} {fd : FuncData} {sl : Array (Option Value)} (ha : PySem.W.nsIn K mainGlobals "price_meant" = some (some (.ref f))) (hl : K.lookup f = some ⟨oc, od, .func fd, sl⟩) (ht : PySem.W.tabIn K "price_meant" = some (c, P)) : fd.code = .ref c := by
  unfold PySem.W.tabIn at ht
  rw [ha] at ht
  simp only [hl] at ht
  split at ht
  · rename_i c2 hc
    split at ht
    · split at ht
      · cases ht
        exact hc
      · cases ht
    · cases ht
  · cases ht
def csOf (K : Fg) : List (Addr × Addr) := match PySem.W.tabIn K "price_meant" with
  | some p => [p]
  | none => []
def tabChk (q : Program) (K : Fg) : Bool := match PySem.W.tabIn K "price_meant" with
  | some p => (K.lookup p.2).isNone && ((recsOf q).find? fun e : DefRec => e.name == ("price_meant" : Str)).isSome
  | none => true
theorem mem_cs {K : Fg} {p : Addr × Addr} : p ∈ csOf K ↔ PySem.W.tabIn K "price_meant" = some p := by
  unfold csOf
  split
  · rename_i q e
    simp [eq_comm, e]
  · rename_i e
    simp [e]
theorem walk {l : PySem.W.OpenLaw} {q : Program} {loose : List Str} {XP : (Str → Option Value) → Heap → Prop} {YP : World → Heap → Prop} {d : DefRec} {K : Params → PySem.W.Frag} {k : Nat} (hn : l.most = some 63) (hdf : d.params.defaults = []) (hk : Room k callerA)
    (hY : ∀ (w : World) (h : Heap), YP w h → (K w.params).In h) (hT : ∀ w : World, tabChk q (K w.params) = true)
    (F : ∀ (w : World) (mg : Str → Option Value) (fa : Addr) (h : Heap), (K w.params).In h → h.Ns mainGlobals mg → mg d.name = some (.ref fa) →
      ∃ fd : FuncData, (∀ (s : Shared) (u : Value), BindsTo s fd ⟨[u], []⟩ [("script", u)]) ∧ ∀ base : Heap, (K w.params).In base → base.Ns mainGlobals mg → TbB (K w.params) base mg → FnOk l.prog w (K w.params) mg base CX0 k fa fd ["script"] (spLaw (K w.params))) :
    PySem.W.WalkO q loose XP YP l.row.toRowW d [] (fun f vs => PySem.call f vs) := by
  refine Att.attach_callB hn hdf fun w s₀ s₁ mg mb fa o pm cd doc a vs ns G Y ho hd hcd hmg hobj hints hlen hbits hg => ?_
  have KX := hY w _ Y
  obtain ⟨fd, hb, hF⟩ := F w mg fa _ KX G.T.g hmg
  have tk : ∀ p ∈ csOf (K w.params), (K w.params).lookup p.2 = none ∧ PySem.W.CodeHd s₁.heap p.1 p.2 ∧ s₁.heap.get? p.2 = some { cls := .none, data := .fields #[] } := fun p hp => by
    have e := mem_cs.mp hp
    have c := hT w
    unfold tabChk at c
    rw [e] at c
    simp only [Bool.and_eq_true, Option.isNone_iff_eq_none] at c
    obtain ⟨dd, hd⟩ := Option.isSome_iff_exists.mp c.2
    have z := PySem.W.tab_of (x := "price_meant") (c := p.1) (P := p.2) G.T KX hd e
    exact ⟨c.1, z.1, z.2⟩
  refine LamX.law_callTs (cs := csOf (K w.params)) KX G.T.g G.T.b G.T.builtins G.T.nolimit hg (fun p hp => (tk p hp).2.2) (fun p hp => (tk p hp).1) (fun p hp => (tk p hp).2.1) G.T.bmain hobj hints (Nat.le_trans hlen (by decide)) hk
    (fun base h1 h2 h3 => hF base h1 h2 fun c P e => h3 (c, P) (mem_cs.mpr e)) hb (fun H hH hS => ⟨a, ns, rfl, hS, hlen, fun c P e => hH (c, P) (mem_cs.mpr e), fun _ => rfl⟩) fun _ _ _ z => z
/-- a module's tuple as data -/
def KTupV (K : Fg) (t : Addr) (ds : List PyData) : Prop := ∃ vs, (∃ (o : Obj) (its : Array Value) (n : Nat), K.lookup t = some o ∧ o.cls = .type "tuple" ∧ o.data = .seq its n ∧ its.size ≤ sizeLine ∧ Vals vs its.toList) ∧ ∀ F : Hp, DqAll K F vs ds
theorem KTupV.dq {K : Fg} {t : Addr} {ds : List PyData} (h : KTupV K t ds) (hk : kOk ds = true) (F : Hp) : Dq K F (.ref t) (.tuple ds) := by
  obtain ⟨vs, h1, h2⟩ := h
  exact .tups (.inr ⟨hk, h1⟩) (h2 F)
theorem KTupV.k {K : Fg} {t : Addr} {ds : List PyData} (h : KTupV K t ds) : KTup K t ds := by
  obtain ⟨vs, h1, h2⟩ := h
  exact ⟨vs, fun F => .inr h1, h2⟩
end VL

end

section
set_option Elab.async false
set_option linter.all false
set_option maxRecDepth 100000
/-! x[::-1] of tuples -/
namespace VL
open PySem PySem.Spec PyProof.Rows L2 HT
section
variable {prog : Program} {w : World} {A : Around} {E : Value → Shared → Prop} {s : Shared}
theorem adj_rev (n : Nat) : Builtin.Slice.sliceAdjust none none (-1) (n : Int) = ((n : Int) - 1, -1) := by
  unfold Builtin.Slice.sliceAdjust
  simp
theorem plc_rev (n : Nat) : Builtin.Slice.slicePlaces ((n : Int) - 1) (-1) (-1) = n := by
  unfold Builtin.Slice.slicePlaces
  have h1 : ¬ ((-1 : Int) > 0) := by omega
  simp only [h1, if_false, Int.neg_neg, Int.ediv_one]
  split <;> omega
theorem applied_rev {sl : Addr} {t : Tok} {n : Nat} {Q : Int × Int × Nat → Shared → Prop} (hs : s.heap.IsSliceOf sl .none .none (.int (-1) t)) (h : Q ((n : Int) - 1, -1, n) s) :
    wpAny (model prog w) A (Builtin.Slice.sliceApplied (.ref sl) (pure (n : Int))) Q E s := by
  obtain ⟨os, hos, hcs, hds⟩ := id hs
  unfold Builtin.Slice.sliceApplied Builtin.Slice.sliceFields
  refine wpAny_bind (wpAny_bind (wpAny_field hos hds (x := .none) rfl (wpAny_bind (wpAny_field hos hds (x := .none) rfl (wpAny_bind (wpAny_field hos hds (x := .int (-1) t) rfl (wpAny_pure ?_)))))))
  refine wpAny_bind (slicePart_ (.int (-1) t) ?_)
  show wpAny _ _ (if ((-1 : Int) == 0) = true then _ else _) _ _ s
  rw [if_neg (by decide)]
  refine wpAny_bind (slicePart_ .none (wpAny_bind (slicePart_ .none (wpAny_bind (wpAny_pure ?_)))))
  show wpAny _ _ (match Builtin.Slice.sliceAdjust none none (-1) (n : Int) with | (lo, hi) => pure (lo, (-1 : Int), Builtin.Slice.slicePlaces lo hi (-1))) _ _ s
  rw [adj_rev n]
  show wpAny _ _ (pure ((n : Int) - 1, (-1 : Int), Builtin.Slice.slicePlaces ((n : Int) - 1) (-1) (-1))) _ _ s
  rw [plc_rev]
  exact wpAny_pure h
theorem filterMap_all {α β : Type} {f : α → Option β} {g : α → β} : ∀ {xs : List α}, (∀ x ∈ xs, f x = some (g x)) → xs.filterMap f = xs.map g
  | [], _ => rfl
  | x :: xs, h => by
    rw [List.filterMap_cons, h x List.mem_cons_self, List.map_cons, filterMap_all fun y hy => h y (List.mem_cons_of_mem _ hy)]
theorem pick_rev (xs : Array Value) : ((List.range xs.size).filterMap fun (m : Nat) => xs[(((xs.size : Nat) : Int) - 1 + (m : Int) * (-1)).toNat]?).toArray = xs.toList.reverse.toArray := by
  congr 1
  have e : (List.range xs.size).filterMap (fun (m : Nat) => xs[(((xs.size : Nat) : Int) - 1 + (m : Int) * (-1)).toNat]?) = (List.range xs.size).map fun m => xs.toList.reverse[m]?.getD .none := by
    apply filterMap_all
    intro m hm
    have hm := List.mem_range.mp hm
    have h1 : (((xs.size : Nat) : Int) - 1 + (m : Int) * (-1)).toNat = xs.size - 1 - m := by omega
    have h2 : m < xs.toList.reverse.length := by simp; exact hm
    have h3 : xs.size - 1 - m < xs.size := by omega
    rw [h1, List.getElem?_eq_getElem h2, Array.getElem?_eq_getElem h3]
    simp
  rw [e]
  apply List.ext_getElem?
  intro i
  rw [List.getElem?_map]
  by_cases hi : i < xs.size
  · have h2 : i < xs.toList.reverse.length := by simp; exact hi
    rw [List.getElem?_range hi, Option.map_some, List.getElem?_eq_getElem h2]
    rfl
  · rw [List.getElem?_eq_none (by simp; omega), List.getElem?_eq_none (by simp; omega)]
    rfl
theorem getItem_tuple_rev {t sl : Addr} {tk : Tok} {items : Array Value} {Q : Value → Shared → Prop} (ht : IsTup s.heap t items) (hs : s.heap.IsSliceOf sl .none .none (.int (-1) tk))
    (h : Q (.ref s.heap.objs.size) { s with heap := s.heap.push { cls := .type "tuple", data := .seq items.toList.reverse.toArray } })
    (hsz : items.size ≤ sizeLine) : wpAny (model prog w) A (getItem (.ref t) (.ref sl)) Q E s := by
  have htake : sizeOk (.seq items.toList.reverse.toArray) := by
    show items.toList.reverse.toArray.size ≤ sizeLine
    rw [List.size_toArray, List.length_reverse, Array.length_toList]
    exact hsz
  obtain ⟨os, hos, hcs, hds⟩ := id hs
  have hTs : s.TypeIs (.ref sl) "slice" := ⟨os, hos, hcs⟩
  unfold getItem
  try with_reducible refine wpAny_holding ?_
  first | refine wpAny_bind (wpAny_pure ?_) | skip
  refine wpAny_bind (wpAny_sequenceKey ht.typeIs (by decide) ?_)
  refine wpAny_bind (wpAny_callSpecial?_slot (name := Str.ofString "__getitem__") ht.typeIs PyProof.Rows.slot_tuple_getitem
    (wpAny_call_entry PyProof.Rows.slot_tuple_getitem ht.typeIs entry_tuple_getitem ?_ (args_tuple_getitem _ _)))
  show wpAny _ _ (Builtin.Tuple.tupleItemsOf (.ref t) >>= _) _ _ s
  refine wpAny_bind (tupleItemsOf_ ht ?_)
  refine wpAny_bind (wpAny_typeOf hTs ?_)
  rw [if_pos (by decide)]
  refine wpAny_bind (applied_rev hs ?_)
  have hno : ¬ ((((items.size : Nat) : Int) - 1 == 0 && (-1 : Int) == 1 && items.size == items.size) = true) := by
    simp
  show wpAny _ _ (if (((items.size : Nat) : Int) - 1 == 0 && (-1 : Int) == 1 && items.size == items.size) = true then _ else _) _ _ s
  rw [if_neg hno, pick_rev]
  first
    | exact wpAny_bind (m := Builtin.Tuple.tupleExact _) (wpAny_newObj_type (wpAny_pure ⟨_, rfl, wpAny_pure h⟩) htake)
    | exact wpAny_bind (m := Builtin.Tuple.tupleExact _) (wpAny_newObj_type (wpAny_bind (wpAny_pure (wpAny_pure ⟨_, rfl, wpAny_pure h⟩))) htake)
    | exact wpAny_bind (wpAny_bind (m := Builtin.Tuple.tupleExact _) (wpAny_newObj_type (wpAny_pure (wpAny_pure ⟨_, rfl, wpAny_pure h⟩)) htake))
    | exact wpAny_bind (wpAny_bind (m := Builtin.Tuple.tupleExact _) (wpAny_newObj_type (wpAny_pure ⟨_, rfl, wpAny_pure h⟩) htake))
end
section
variable {X : Cx} {T : List Nat} {W : WV} {a : Expr} {fa : M Rv} {pos p2 p3 p4 : Pos}
def tRevA (K : Fg) (te : TE) : TE := fun σ H Q => te σ H fun x H1 => ∃ a xs, x = .ref a ∧ SqT K H1 a xs ∧ ∀ p, H1 p = none → Q (.ref p) (upd H1 p (.tup xs.reverse))
theorem pe_revT {e : Expr} {te : TE} {k : Nat} {p1 p2 p3 pos : Pos} (he : PE X e te) : PE X (.Subscript e (.Slice none none (some (.UnaryOp .USub (.Constant (.int 1) k p1) p2)) p3) pos) (tRevA X.K te) := by
  refine ⟨fun pins s σ H Q I h => ?_⟩
  refine Subscript_ (thn (he.run pins s σ H _ I h) fun v s1 ⟨x, H1, I1, r1, q1⟩ => ?_)
  obtain ⟨a, xs, ex, hx, q⟩ := q1
  subst ex
  cases r1
  have hst : PO X (some (.UnaryOp .USub (.Constant (.int 1) k p1) p2)) (tPart (tUn (rU fun i => .int (-i)) (tC (.int 1)))) := po_some (pe_un un_neg pe_int)
  refine wpAny_Slice (thn (po_none.run pins s1 σ H1 (fun o H2 => o = none ∧ H2 = H1) I1 ⟨rfl, rfl⟩) fun vl s2 ⟨l, H2, I2, pl, el, e2⟩ => ?_)
  subst el e2
  refine thn (po_none.run pins s2 σ H2 (fun o H3 => o = none ∧ H3 = H2) I2 ⟨rfl, rfl⟩) fun vu s3 ⟨u, H3, I3, pu, eu, e3⟩ => ?_
  subst eu e3
  refine thn (hst.run pins s3 σ H3 (fun o H4 => o = some (-1) ∧ H4 = H3) I3 ⟨1, rfl, -1, rfl, rfl, rfl⟩) fun vs s4 ⟨o, H4, I4, ps, eo, e4⟩ => ?_
  subst eo e4
  cases pl
  cases pu
  obtain ⟨tk, rfl⟩ : ∃ tk, vs = .int (-1) tk := by cases ps; exact ⟨_, rfl⟩
  have I5 : L2.Inv X pins σ H4 { s4 with heap := s4.heap.push { cls := .type "slice", data := .fields #[.none, .none, .int (-1) tk] } } := I4.kept (t' := s4.toks) fun b ob q => Heap.get?_push_of_some _ q
  obtain ⟨its, r, ht, hz⟩ := I5.tuple hx
  have hlen := r.length
  show wpAny (model X.prog X.w) X.A (subscriptTail e (.Slice none none (some (.UnaryOp .USub (.Constant (.int 1) k p1) p2)) p3) (.ref a) (.ref s4.heap.objs.size)) (EP X pins σ Q) X.xe { s4 with heap := s4.heap.push { cls := .type "slice", data := .fields #[.none, .none, .int (-1) tk] } }
  refine tail_any (ops := [.ref a, .ref s4.heap.objs.size]) ht.typeIs PyProof.Rows.slot_tuple_getitem.lookup ?_ (by with_unfolding_all rfl)
  refine getItem_tuple_rev ht (Heap.IsSliceOf.new ..) ?_ (by rw [List.size_toArray]; omega)
  refine ⟨.ref _, _, I5.laid (t' := s4.toks) (o := .tup xs.reverse) (fun b ob q => Heap.get?_push_of_some _ q) (Nat.le_refl _) ?_, rfl, q _ (I5.hok.fresh (Nat.le_refl _))⟩
  exact ⟨by rw [List.length_reverse]; exact hz, _, r.reverse, IsTup.new _ _⟩
theorem dqAll_rev {K : Fg} {F : Hp} : ∀ {vs : List V} {ds : List PyData}, DqAll K F vs ds → DqAll K F vs.reverse ds.reverse
  | _, _, .nil => .nil
  | _, _, .cons h t => by
    rw [List.reverse_cons, List.reverse_cons]
    exact dqAll_app (dqAll_rev t) (.cons h .nil)
/-- x[::-1] of a tuple -/
def rev1 (x : Rv) : M Rv := fun ρ => match x with
  | .d (.tuple ds) => some (.ok (.d (.tuple ds.reverse)) ρ)
  | _ => none
def cRev (f : M Rv) : M Rv := bnd f rev1
theorem ve_rev {k : Nat} {p1 p2 p3 pos : Pos} (ha : VE X T W a fa) : VE X T W (.Subscript a (.Slice none none (some (.UnaryOp .USub (.Constant (.int 1) k p1) p2)) p3) pos) (cRev fa) :=
  pe_imp (pe_revT ha) fun σ H Q ⟨F, ρ, fp, o, E, e, P⟩ => by
    refine tv_bnd E e P (fun i hi => hi) fun x ρ1 v H1 F1 fp1 s1 r1 e1 P1 => ?_
    unfold rev1 at e1
    split at e1
    · cases ok_inj e1
      have hx : DpS X.K F1 H1 v _ := .inl r1
      obtain ⟨b, vs, rfl, h1, h2, h3⟩ := hx.tup s1.env.sub
      refine ⟨b, vs, rfl, h1, fun p np => ?_⟩
      have gr : Grow F1 H1 _ _ := .new (.tup vs.reverse) s1.env.sub np
      exact P1 _ _ _ fp1 (gr.step s1.env) (.tup upd_same (dqAll_mono (same_upd (s1.env.sub.free np)) _ _ (dqAll_rev h2)))
    · cases e1
end
end VL

end

section
set_option Elab.async false
set_option linter.all false
set_option maxRecDepth 100000
/-! sum, max, min, list.count -/
namespace VL
open PySem PySem.Spec PyProof.Rows L2
section
variable {X : Cx} {T T1 T2 : List Nat} {W : WV} {K : Fg}
/-! ### xs.count(e): flat items -/
def eqF (x : V) (u : Value) : Bool := match absV u with
  | some y => eqV y x
  | none => false
def rCntF (K : Fg) : V → List V → Hp → VK → Prop := fun x xs H Q => ∃ (p : Addr) (vs : List V) (k : V), x = .ref p ∧ xs = [k] ∧ SqL K H p vs ∧ vs.all flatV = true ∧ flatV k = true ∧ Q (.int (vs.countP (fun y => eqV y k) : Nat)) H
theorem cnt_vals {k : V} : ∀ {vs : List V} {us : List Value}, Vals vs us → us.countP (eqF k) = vs.countP fun y => eqV y k
  | _, _, .nil => rfl
  | _, _, .cons (a := x) (b := u) r t => by
    have e : eqF k u = eqV x k := by unfold eqF; rw [r.abs]
    rw [List.countP_cons, List.countP_cons, cnt_vals t, e]
theorem vals_mem : ∀ {vs : List V} {us : List Value} {u : Value}, Vals vs us → u ∈ us → ∃ x ∈ vs, RelV x u
  | _, _, _, .nil, h => nomatch h
  | _, _, _, .cons r t, h => by
    rcases List.mem_cons.mp h with e | h
    · subst e; exact ⟨_, List.mem_cons_self, r⟩
    · obtain ⟨x, hx, rx⟩ := vals_mem t h
      exact ⟨x, List.mem_cons_of_mem _ hx, rx⟩
theorem mt_cntF : MtR X "list.count" (rCntF X.K) := by
  intro pins s σ H x xs v us Q I rx rxs h
  obtain ⟨p, vs, k, rfl, rfl, hs, hf, hk, q⟩ := h
  cases rx
  obtain ⟨u, rfl, ru⟩ := rxs.one
  obtain ⟨its, rv, ⟨⟨cls, dd, data, sl⟩, n, ho, hc, hdn, hd⟩, hlen⟩ := I.list hs
  simp only at hc hd
  subst hc hd
  have ec : its.toArray.toList.countP (eqF k) = vs.countP fun y => eqV y k := cnt_vals rv
  refine call_meets PySem.F.slot_list_count ⟨_, ho, rfl⟩ PySem.F.entry_list_count (PySem.F.args_list_count_2 _ _)
    (SeqAt.list_countAt p its.toArray n dd sl u (eqF k)) ⟨ho, fun y hy => ?_, .int (vs.countP (fun y => eqV y k) : Nat), H, I.tok _, ⟨s.toks, by rw [← ec]⟩, q⟩
  obtain ⟨z, hz, rz⟩ := vals_mem rv (show y ∈ its by simpa using hy)
  have ez : eqF k y = eqV z k := by unfold eqF; rw [rz.abs]
  rw [ez]
  exact eqAt_V rz ru (List.all_eq_true.mp hf z hz) hk
def cCnt1 (ds : List PyData) (y : Rv) : M Rv := fun ρ => match y with
  | .d e => if flatD e && ds.all flatD then some (.ok (.d (.int (ds.countP (fun z => PyData.eqv z e) : Nat))) ρ) else none
  | .o _ => none
def cCnt (fo fe : M Rv) : M Rv := bnd fo fun x => match x with
  | .d (.list ds) => bnd fe (cCnt1 ds)
  | _ => fun _ => none
theorem cnt_ok {H : Hp} {k : V} {e : PyData} (hk : Dq K H k e) (fe : flatD e = true) : ∀ {vs : List V} {ds : List PyData}, DqAll K H vs ds → ds.all flatD = true → (vs.countP fun y => eqV y k) = ds.countP fun z => PyData.eqv z e
  | _, _, .nil, _ => rfl
  | _, _, .cons h t, f => by
    rw [List.all_cons, Bool.and_eq_true] at f
    rw [List.countP_cons, List.countP_cons, cnt_ok hk fe t f.2, eqV_ok h hk f.1 fe]
variable {o e : Expr} {fo fe : M Rv} {apos cpos : Pos}
theorem ve_cnt (ho : VE X T1 W o fo) (he : VE X T2 W e fe) (hbase : attributeBase o "count" X.env (eval o X.env) = eval o X.env := by rfl)
    (hfw : ((backTo cpos (starEach [e] X.env)).all (fun x => !x.1) && (backToKw cpos (keywordEach [] X.env)).all (fun x => x.1.isSome) && decide (([e] : List Expr).length + ([] : List Keyword).length + (if ([] : List Keyword).isEmpty then 0 else 1) < 30)) = true := by rfl)
    (hline : (apos.endLine == cpos.line) = true := by rfl) (hst : starEach [e] X.env = (false, eval e X.env) :: starEach [] X.env := by rfl) (hplain : (backTo cpos (starEach [] X.env)).any (·.1) = false := by rfl) :
    VE X (T1 ++ T2) W (.Call (.Attribute o "count" apos) [e] [] cpos) (cCnt fo fe) :=
  pe_imp (pe_bm PySem.F.plainAttrs_list PySem.F.slot_list_count PySem.F.type_list_count mt_cntF ho (pa_cons he pa_nil hst) hbase hfw hline hst hplain) fun σ H Q ⟨F, ρ, fp, ou, E, q, P⟩ => by
    refine tv_bnd E q P (fun i hi => List.mem_append_left _ hi) fun x ρ1 v H1 F1 fp1 s1 r1 e1 P1 => ?_
    split at e1
    · rename_i ds
      have hx : DpS X.K F1 H1 v _ := .inl r1
      obtain ⟨a, vs, rfl, h1, h2⟩ := hx.list s1.env.sub
      refine ⟨.inl ⟨rfl, vs, .inl h1⟩, ?_⟩
      refine tv_bnd s1.env e1 P1 (fun i hi => List.mem_append_right _ hi) fun y ρ2 w H2 F2 fp2 s2 r2 e2 P2 => ?_
      unfold cCnt1 at e2
      split at e2
      · rename_i z
        split at e2
        · rename_i hf
          rw [Bool.and_eq_true] at hf
          cases ok_inj e2
          have hr1 : RvOk X.K F1 σ ρ1 (.ref a) (.d (.list ds)) := r1
          have hx2 : DpS X.K F2 H2 (.ref a) (.list ds) := .inl (RvOk.step s2 hr1)
          obtain ⟨a', vs', ea, h1', h2'⟩ := hx2.list s2.env.sub
          cases ea
          have hy : Dq X.K F2 w z := r2
          refine ⟨a, vs', w, rfl, rfl, .inl h1', flat_all h2' hf.2, flatD_ok hy hf.1, ?_⟩
          rw [cnt_ok hy hf.1 h2' hf.2]
          exact P2 _ H2 F2 fp2 (.refl s2.env) (.int _)
        · cases e2
      · cases e2
    · cases e1
/-! ### sum, max, min of a list of ints -/
def intsD : List PyData → Option (List Int)
  | [] => some []
  | .int i :: ds => (intsD ds).map (i :: ·)
  | _ :: _ => none
theorem ints_ok {F : Hp} : ∀ {vs : List V} {ds : List PyData} {ns : List Int}, DqAll K F vs ds → intsD ds = some ns → vs = ns.map V.int
  | _, _, _, .nil, e => by simp only [intsD] at e; cases e; rfl
  | _, _, _, .cons (d := d) h t, e => by
    cases d <;> simp only [intsD] at e <;> try (cases e; done)
    obtain ⟨ms, e1, rfl⟩ := map_some e
    cases h
    rw [ints_ok t e1]
    rfl
def sumD : List PyData → Option PyData
  | [.list ds] => (intsD ds).map fun ns => .int ns.sum
  | _ => none
theorem ok_sumD : CallOk K (rSum K) sumD := by
  intro F H vs ds z Q s h e k
  unfold sumD at e
  split at e
  · cases h with
    | cons h t =>
      cases t
      obtain ⟨ns, e1, rfl⟩ := map_some e
      obtain ⟨a, us, rfl, h1, h2⟩ := h.list s
      have := ints_ok h2 e1
      subst this
      exact ⟨a, ns, rfl, .inl h1, k _ F H (.refl s) (.int _)⟩
  · cases e
def maxI : Int → List Int → Int
  | m, [] => m
  | m, i :: is => maxI (if i > m then i else m) is
def minI : Int → List Int → Int
  | m, [] => m
  | m, i :: is => minI (if i < m then i else m) is
theorem maxI_ge : ∀ (is : List Int) (m : Int), m ≤ maxI m is ∧ ∀ i ∈ is, i ≤ maxI m is
  | [], m => ⟨Int.le_refl _, fun i h => nomatch h⟩
  | j :: is, m => by
    obtain ⟨h1, h2⟩ := maxI_ge is (if j > m then j else m)
    unfold maxI
    refine ⟨?_, fun i hi => ?_⟩
    · refine Int.le_trans ?_ h1
      split <;> omega
    · rcases List.mem_cons.mp hi with e | hi
      · subst e
        refine Int.le_trans ?_ h1
        split <;> omega
      · exact h2 i hi
theorem minI_le : ∀ (is : List Int) (m : Int), minI m is ≤ m ∧ ∀ i ∈ is, minI m is ≤ i
  | [], m => ⟨Int.le_refl _, fun i h => nomatch h⟩
  | j :: is, m => by
    obtain ⟨h1, h2⟩ := minI_le is (if j < m then j else m)
    unfold minI
    refine ⟨?_, fun i hi => ?_⟩
    · refine Int.le_trans h1 ?_
      split <;> omega
    · rcases List.mem_cons.mp hi with e | hi
      · subst e
        refine Int.le_trans h1 ?_
        split <;> omega
      · exact h2 i hi
def maxD : List PyData → Option PyData
  | [.list ds] => (match intsD ds with
    | some (n :: ns) => some (.int (maxI n ns))
    | _ => none)
  | _ => none
def minD : List PyData → Option PyData
  | [.list ds] => (match intsD ds with
    | some (n :: ns) => some (.int (minI n ns))
    | _ => none)
  | _ => none
theorem ok_maxD : CallOk K (rMax K) maxD := by
  intro F H vs ds z Q s h e k
  unfold maxD at e
  split at e
  · cases h with
    | cons h t =>
      cases t
      split at e
      · rename_i n ns e1
        cases e
        obtain ⟨a, us, rfl, h1, h2⟩ := h.list s
        have := ints_ok h2 e1
        subst this
        refine ⟨a, n :: ns, rfl, .inl h1, by simp, fun m hm hy => ?_⟩
        have q := maxI_ge ns n
        have e2 : m = maxI n ns := by
          have a1 : m ≤ maxI n ns := by
            rcases List.mem_cons.mp hm with e | e
            · subst e; exact q.1
            · exact q.2 m e
          have a2 : maxI n ns ≤ m := by
            have mem : ∀ (is : List Int) (j : Int), maxI j is ∈ j :: is := fun is => by
              induction is with
              | nil => intro j; simp [maxI]
              | cons i is ih =>
                intro j
                unfold maxI
                rcases List.mem_cons.mp (ih (if i > j then i else j)) with e | e
                · rw [e]
                  split <;> simp
                · simp [e]
            exact hy _ (mem ns n)
          omega
        rw [e2]
        exact k _ F H (.refl s) (.int _)
      · cases e
  · cases e
theorem ok_minD : CallOk K (rMin K) minD := by
  intro F H vs ds z Q s h e k
  unfold minD at e
  split at e
  · cases h with
    | cons h t =>
      cases t
      split at e
      · rename_i n ns e1
        cases e
        obtain ⟨a, us, rfl, h1, h2⟩ := h.list s
        have := ints_ok h2 e1
        subst this
        refine ⟨a, n :: ns, rfl, .inl h1, by simp, fun m hm hy => ?_⟩
        have q := minI_le ns n
        have e2 : m = minI n ns := by
          have a1 : minI n ns ≤ m := by
            rcases List.mem_cons.mp hm with e | e
            · subst e; exact q.1
            · exact q.2 m e
          have a2 : m ≤ minI n ns := by
            have mem : ∀ (is : List Int) (j : Int), minI j is ∈ j :: is := fun is => by
              induction is with
              | nil => intro j; simp [minI]
              | cons i is ih =>
                intro j
                unfold minI
                rcases List.mem_cons.mp (ih (if i < j then i else j)) with e | e
                · rw [e]
                  split <;> simp
                · simp [e]
            exact hy _ (mem ns n)
          omega
        rw [e2]
        exact k _ F H (.refl s) (.int _)
      · cases e
  · cases e
end
end VL

end

section
set_option Elab.async false
set_option linter.all false
set_option maxRecDepth 100000
/-! owned dicts whose values are data: keys are ints and texts (dk), or tuples of these (dt) -/
namespace VL
open PySem PySem.Spec PyProof.Rows L2
/-! ### keys -/
def keyD : PyData → Option Key
  | .int i => some (.inl i)
  | .str z => some (.inr z)
  | _ => none
def keysD : List PyData → Option (List Key)
  | [] => some []
  | d :: ds => match keyD d, keysD ds with
    | some k, some ks => some (k :: ks)
    | _, _ => none
def keyT : PyData → Option (List Key)
  | .tuple ds => if kOk ds then none else keysD ds
  | _ => none
section
variable {K : Fg} {F : Hp}
theorem keyD_ok {v : V} {d : PyData} {k : Key} (h : Dq K F v d) (e : keyD d = some k) : v = kV k := by
  cases h <;> simp only [keyD] at e <;> first | (cases e; rfl) | cases e
theorem keysD_ok : ∀ {vs : List V} {ds : List PyData} {ks : List Key}, DqAll K F vs ds → keysD ds = some ks → vs = ks.map kV
  | _, _, _, .nil, e => by simp only [keysD] at e; cases e; rfl
  | _, _, _, .cons h t, e => by
    simp only [keysD] at e
    split at e
    · rename_i k ks e1 e2
      cases e
      rw [keyD_ok h e1, keysD_ok t e2]
      rfl
    · cases e
theorem keyT_ok {v : V} {d : PyData} {k : List Key} (h : Dq K F v d) (e : keyT d = some k) : ∃ b, v = .ref b ∧ F b = some (.tup (k.map kV)) := by
  cases h with
  | tups hs ha =>
    simp only [keyT] at e
    split at e
    · cases e
    · rename_i hk
      rcases hs with hs | ⟨hk', _⟩
      · exact ⟨_, rfl, by rw [← keysD_ok ha e]; exact hs⟩
      · exact absurd hk' hk
  | _ => simp [keyT] at e
end
/-- the value at a key -/
def getK {κ : Type} [DecidableEq κ] (kvs : List (κ × Tr)) (k : κ) : Option Tr := (kvs.find? fun kv => decide (kv.1 = k)).map (·.2)
def lookP {κ : Type} [DecidableEq κ] (kvs : List (κ × PyData)) (k : κ) : Option PyData := (kvs.find? fun kv => decide (kv.1 = k)).map (·.2)
/-- what an owned dict tells at a key -/
def dictAt (t : Tr) (d : PyData) : Option (Option PyData) := match t with
  | .dk kvs => (match keyD d with
    | some k => (match getK kvs k with
      | none => some none
      | some (.dat e) => some (some e)
      | some _ => none)
    | none => none)
  | .dt kvs => (match keyT d with
    | some k => (match getK kvs k with
      | none => some none
      | some (.dat e) => some (some e)
      | some _ => none)
    | none => none)
  | .fk kvs => (match keyD d with
    | some k => some (lookP kvs k)
    | none => none)
  | .ft kvs => (match keyT d with
    | some k => some (lookP kvs k)
    | none => none)
  | _ => none
theorem prs_get {κ : Type} [DecidableEq κ] {K : Fg} {F : Hp} {k : κ} : ∀ {vs : List (κ × V)} {ds : List (κ × PyData)}, vs.map (·.1) = ds.map (·.1) → DqAll K F (vs.map (·.2)) (ds.map (·.2)) →
    (lookP ds k = none → valV vs k = none) ∧ ∀ e, lookP ds k = some e → ∃ v, valV vs k = some v ∧ Dq K F v e
  | [], [], _, _ => ⟨fun _ => rfl, fun e h => by simp [lookP] at h⟩
  | [], _ :: _, h, _ => by simp at h
  | _ :: _, [], h, _ => by simp at h
  | (k1, v1) :: vs, (k2, t2) :: ts, h, q => by
    simp only [List.map_cons, List.cons.injEq] at h
    obtain ⟨h1, h2⟩ := h
    subst h1
    simp only [List.map_cons] at q
    cases q with
    | cons q1 q2 =>
      obtain ⟨a1, a2⟩ := prs_get (k := k) h2 q2
      unfold lookP valV at *
      by_cases hk : k1 = k
      · simp only [List.find?_cons, hk, decide_true, Option.map_some]
        refine ⟨fun h => (by cases h), fun e h => ?_⟩
        cases (Option.some.inj h)
        exact ⟨_, rfl, q1⟩
      · simp only [List.find?_cons, hk, decide_false]
        exact ⟨a1, a2⟩
theorem getK_ok {κ : Type} [DecidableEq κ] {K : Fg} {F H : Hp} {k : κ} : ∀ {vs : List (κ × V)} {ts : List (κ × Tr)} {A : List Addr}, vs.map (·.1) = ts.map (·.1) → TrsOk K F H (vs.map (·.2)) (ts.map (·.2)) A →
    (getK ts k = none → valV vs k = none) ∧ ∀ e, getK ts k = some (.dat e) → ∃ v, valV vs k = some v ∧ Dq K F v e
  | [], [], _, _, _ => ⟨fun _ => rfl, fun e h => by simp [getK] at h⟩
  | [], _ :: _, _, h, _ => by simp at h
  | _ :: _, [], _, h, _ => by simp at h
  | (k1, v1) :: vs, (k2, t2) :: ts, A, h, q => by
    simp only [List.map_cons, List.cons.injEq] at h
    obtain ⟨h1, h2⟩ := h
    subst h1
    simp only [List.map_cons] at q
    cases q with
    | cons q1 q2 =>
      obtain ⟨a1, a2⟩ := getK_ok (k := k) h2 q2
      unfold getK valV at *
      by_cases hk : k1 = k
      · simp only [List.find?_cons, hk, decide_true, Option.map_some]
        refine ⟨fun h => (by cases h), fun e h => ?_⟩
        cases (Option.some.inj h)
        cases q1 with
        | dat q1 => exact ⟨_, rfl, q1⟩
      · simp only [List.find?_cons, hk, decide_false]
        exact ⟨a1, a2⟩
/-- an owned dict as the layer's DGet -/
theorem dict_get {K : Fg} {F H : Hp} {v w : V} {t : Tr} {B : List Addr} {d : PyData} {r : Option PyData} (s : Same F H) (q : TrOk K F H v t B) (hk : Dq K F w d) (e : dictAt t d = some r) :
    ∃ a o, v = .ref a ∧ DGet H a w o ∧ (r = none → o = none) ∧ ∀ z, r = some z → ∃ x, o = some x ∧ Dq K F x z := by
  unfold dictAt at e
  split at e
  · split at e
    · rename_i kvs k ek
      have ew := keyD_ok hk ek
      subst ew
      cases q with
      | dk h1 h2 h3 h4 =>
        obtain ⟨g1, g2⟩ := getK_ok (k := k) h3 h4
        refine ⟨_, _, rfl, DGet.k h1, ?_⟩
        split at e
        · rename_i hn
          cases e
          exact ⟨fun _ => g1 hn, (fun z hz => nomatch hz)⟩
        · rename_i z hz
          cases e
          refine ⟨(fun hz => nomatch hz), fun z' hz' => ?_⟩
          cases hz'
          exact g2 _ hz
        · cases e
    · cases e
  · split at e
    · rename_i kvs k ek
      obtain ⟨b, rfl, hb⟩ := keyT_ok hk ek
      cases q with
      | dt h1 h2 h3 h4 =>
        obtain ⟨g1, g2⟩ := getK_ok (k := k) h3 h4
        refine ⟨_, _, rfl, DGet.t h1 (s _ _ hb), ?_⟩
        split at e
        · rename_i hn
          cases e
          exact ⟨fun _ => g1 hn, (fun z hz => nomatch hz)⟩
        · rename_i z hz
          cases e
          refine ⟨(fun hz => nomatch hz), fun z' hz' => ?_⟩
          cases hz'
          exact g2 _ hz
        · cases e
    · cases e
  · split at e
    · rename_i kvs k ek
      have ew := keyD_ok hk ek
      subst ew
      cases e
      cases q with
      | @fk a o vs _ h1 h2 h3 =>
        obtain ⟨g1, g2⟩ := prs_get (k := k) h3.1 h3.2
        exact ⟨_, _, rfl, .inl ⟨vs, k, .inr ⟨o, h1⟩, rfl, rfl⟩, g1, g2⟩
    · cases e
  · split at e
    · rename_i kvs k ek
      obtain ⟨b, rfl, hb⟩ := keyT_ok hk ek
      cases e
      cases q with
      | @ft a o vs _ h1 h2 h3 =>
        obtain ⟨g1, g2⟩ := prs_get (k := k) h3.1 h3.2
        exact ⟨_, _, rfl, .inr ⟨vs, k, b, .inr ⟨o, h1⟩, rfl, s _ _ hb, rfl⟩, g1, g2⟩
    · cases e
  · cases e
section
variable {X : Cx} {T T1 T2 T3 : List Nat} {W : WV} {fk fx : M Rv} {fp1 : M (Nat × List Nat)} {i o e : Expr} {pos : Pos}
/-! ### k in d, k not in d -/
def dIn1 (neg : Bool) (y : Rv) (r : Nat × List Nat) : M Bool := fun ρ => match y, treeAt ρ r with
  | .d d, some t => (match dictAt t d with
    | some z => some (.ok (if neg then !z.isSome else z.isSome) ρ)
    | none => none)
  | _, _ => none
def cDIn (neg : Bool) (fk : M Rv) (f : M (Nat × List Nat)) : M Bool := bnd fk fun y => bnd f (dIn1 neg y)
theorem vt_din (hu : X.A.units + 1 < cLine) (hi : VE X T1 W i fk) (ho : VP X T2 W o fp1) (hb : behindInMarks .In o = false := by rfl) : VT X (T1 ++ T2) W (.Compare i [.In] [o] pos) (cDIn false fk fp1) :=
  pt_imp (pt_cmp (pc_din hu hi ho) hb) fun σ H Q ⟨F, ρ, fp, ou, E, q, P⟩ => by
    refine tv_bnd E q P (fun j hj => List.mem_append_left _ hj) fun y ρ1 v H1 F1 fp1 s1 r1 e1 P1 => ?_
    refine tv_bnd s1.env e1 P1 (fun j hj => List.mem_append_right _ hj) fun r ρ2 w H2 F2 fp2 s2 r2 e2 P2 => ?_
    unfold dIn1 at e2
    split at e2
    · rename_i d t ht
      split at e2
      · rename_i z hz
        cases ok_inj e2
        obtain ⟨B, qB, _⟩ := place_get s2.env r2 ht
        have hk : Dq X.K F2 v d := RvOk.step s2 (show RvOk X.K F1 σ ρ1 v (.d d) from r1)
        obtain ⟨a, oo, rfl, g, g1, g2⟩ := dict_get s2.env.sub qB hk hz
        have eo : oo.isSome = z.isSome := by
          cases z with
          | none => rw [g1 rfl]; rfl
          | some z => obtain ⟨x, hx, _⟩ := g2 z rfl; rw [hx]; rfl
        refine ⟨a, oo, rfl, g, _, rfl, ?_⟩
        rw [eo]
        exact P2 _ H2 F2 fp2 (.refl s2.env) rfl
      · cases e2
    · cases e2
theorem vt_dnotin (hu : X.A.units + 1 < cLine) (hi : VE X T1 W i fk) (ho : VP X T2 W o fp1) (hb : behindInMarks .NotIn o = false := by rfl) : VT X (T1 ++ T2) W (.Compare i [.NotIn] [o] pos) (cDIn true fk fp1) :=
  pt_imp (pt_cmp (pc_dnotin hu hi ho) hb) fun σ H Q ⟨F, ρ, fp, ou, E, q, P⟩ => by
    refine tv_bnd E q P (fun j hj => List.mem_append_left _ hj) fun y ρ1 v H1 F1 fp1 s1 r1 e1 P1 => ?_
    refine tv_bnd s1.env e1 P1 (fun j hj => List.mem_append_right _ hj) fun r ρ2 w H2 F2 fp2 s2 r2 e2 P2 => ?_
    unfold dIn1 at e2
    split at e2
    · rename_i d t ht
      split at e2
      · rename_i z hz
        cases ok_inj e2
        obtain ⟨B, qB, _⟩ := place_get s2.env r2 ht
        have hk : Dq X.K F2 v d := RvOk.step s2 (show RvOk X.K F1 σ ρ1 v (.d d) from r1)
        obtain ⟨a, oo, rfl, g, g1, g2⟩ := dict_get s2.env.sub qB hk hz
        have eo : oo.isSome = z.isSome := by
          cases z with
          | none => rw [g1 rfl]; rfl
          | some z => obtain ⟨x, hx, _⟩ := g2 z rfl; rw [hx]; rfl
        refine ⟨a, oo, rfl, g, _, rfl, ?_⟩
        rw [eo]
        exact P2 _ H2 F2 fp2 (.refl s2.env) rfl
      · cases e2
    · cases e2
/-! ### d[k], there -/
def dGet1 (T2 : List Nat) (r : Nat × List Nat) (y : Rv) : M Rv := fun ρ => if T2.contains r.1 then none else match y, treeAt ρ r with
  | .d d, some t => (match dictAt t d with
    | some (some z) => some (.ok (.d z) ρ)
    | _ => none)
  | _, _ => none
def cDGet (T2 : List Nat) (f : M (Nat × List Nat)) (fk : M Rv) : M Rv := bnd f fun r => bnd fk (dGet1 T2 r)
theorem not_in {T : List Nat} {j : Nat} (h : ¬ T.contains j = true) : j ∉ T := fun z => h (List.contains_iff_mem.mpr z)
theorem ve_dget (hu : X.A.units + 1 < cLine) (ho : VP X T1 W o fp1) (hi : VE X T2 W i fk) (hT : T2 = T3 := by rfl) (hs : NoSl i := by intro _ _; rfl) : VE X (T1 ++ T2) W (.Subscript o i pos) (cDGet T3 fp1 fk) :=
  pe_imp (pe_dget hu ho hi hs) fun σ H Q ⟨F, ρ, fp, ou, E, q, P⟩ => by
    subst hT
    refine tv_bnd E q P (fun j hj => List.mem_append_left _ hj) fun r ρ1 v H1 F1 fp1 s1 r1 e1 P1 => ?_
    refine tv_bnd s1.env e1 P1 (fun j hj => List.mem_append_right _ hj) fun y ρ2 w H2 F2 fp2 s2 r2 e2 P2 => ?_
    unfold dGet1 at e2
    split at e2
    · cases e2
    · rename_i hc
      have pl := place_step s1.env s2 (not_in hc) r1
      split at e2
      · rename_i d t ht
        split at e2
        · rename_i z hz
          cases ok_inj e2
          obtain ⟨B, qB, _⟩ := place_get s2.env pl ht
          obtain ⟨a, oo, rfl, g, g1, g2⟩ := dict_get s2.env.sub qB (show Dq X.K F2 w d from r2) hz
          obtain ⟨x, rfl, hx⟩ := g2 z rfl
          exact ⟨a, x, rfl, g, P2 _ H2 F2 fp2 (.refl s2.env) hx⟩
        · cases e2
      · cases e2
/-! ### d.get(k, x) -/
def isDk : Option Tr → Bool
  | some (.dk _) => true
  | some (.dt _) => true
  | _ => false
def dGet2 (T2 : List Nat) (r : Nat × List Nat) (y x : Rv) : M Rv := fun ρ => if T2.contains r.1 then none else match y, x, treeAt ρ r with
  | .d d, .d u, some t => (match dictAt t d with
    | some z => some (.ok (.d (z.getD u)) ρ)
    | none => none)
  | _, _, _ => none
def cDGet2 (T2 : List Nat) (f : M (Nat × List Nat)) (fk fx : M Rv) : M Rv := bnd f fun r => fun ρ => if isDk (treeAt ρ r) then (bnd fk fun y => bnd fx (dGet2 T2 r y)) ρ else none
theorem isDk_ok {K : Fg} {F H : Hp} {v : V} {t : Tr} {B : List Addr} (q : TrOk K F H v t B) (h : isDk (some t) = true) : ∃ a, v = .ref a ∧ IsD H a := by
  cases q with
  | dk h1 _ _ _ => exact ⟨_, rfl, .inl ⟨_, .inl h1⟩⟩
  | dt h1 _ _ _ => exact ⟨_, rfl, .inr ⟨_, .inl h1⟩⟩
  | _ => cases h
theorem ve_dget2 {apos cpos : Pos} (hu : X.A.units + 1 < cLine) (ho : VP X T1 W o fp1) (hi : VE X T2 W i fk) (he : VE X T3 W e fx) (hT : T2 ++ T3 = T := by rfl) (m : M2 X o "get" apos i e cpos := by exact ⟨rfl, rfl, rfl, rfl⟩) :
    VE X (T1 ++ (T2 ++ T3)) W (.Call (.Attribute o "get" apos) [i, e] [] cpos) (cDGet2 T fp1 fk fx) :=
  pe_imp (pe_dget2 hu ho hi he m) fun σ H Q ⟨F, ρ, fp, ou, E, q, P⟩ => by
    subst hT
    refine tv_bnd E q P (fun j hj => List.mem_append_left _ hj) fun r ρ1 v H1 F1 fp1 s1 r1 e1 P1 => ?_
    split at e1
    · rename_i hd
      cases ht1 : treeAt ρ1 r with
      | none => rw [ht1] at hd; cases hd
      | some t1 =>
        rw [ht1] at hd
        obtain ⟨B1, qB1, _⟩ := place_get s1.env r1 ht1
        obtain ⟨a, rfl, hD⟩ := isDk_ok qB1 hd
        refine ⟨a, rfl, hD, ?_⟩
        refine tv_bnd s1.env e1 P1 (fun j hj => List.mem_append_right _ (List.mem_append_left _ hj)) fun y ρ2 w H2 F2 fp2 s2 r2 e2 P2 => ?_
        refine tv_bnd s2.env e2 P2 (fun j hj => List.mem_append_right _ (List.mem_append_right _ hj)) fun x ρ3 z H3 F3 fp3 s3 r3 e3 P3 => ?_
        unfold dGet2 at e3
        split at e3
        · cases e3
        · rename_i hc
          have hn := not_in hc
          have pl := place_step s2.env s3 (fun z => hn (List.mem_append_right _ z)) (place_step s1.env s2 (fun z => hn (List.mem_append_left _ z)) r1)
          split at e3
          · rename_i d u t ht
            split at e3
            · rename_i zz hz
              cases ok_inj e3
              obtain ⟨B, qB, _⟩ := place_get s3.env pl ht
              have hk : Dq X.K F3 w d := RvOk.step s3 (show RvOk X.K F2 σ ρ2 w (.d d) from r2)
              obtain ⟨a', oo, ea, g, g1, g2⟩ := dict_get s3.env.sub qB hk hz
              cases ea
              refine ⟨oo, g, ?_⟩
              cases zz with
              | none =>
                rw [g1 rfl]
                exact P3 _ H3 F3 fp3 (.refl s3.env) r3
              | some zz =>
                obtain ⟨x, rfl, hx⟩ := g2 zz rfl
                exact P3 _ H3 F3 fp3 (.refl s3.env) hx
            · cases e3
          · cases e3
    · cases e1
/-! ### {} -/
def nNew (t : Tr) : M Tr := ret t
theorem new_dk {K : Fg} {T : List Nat} {F H : Hp} {σ : Sg} {ρ : Rho} {fp : FP} {p : Addr} (E : EnvOk K F H σ ρ fp) (np : H p = none) :
    EStep K T F H σ ρ fp F (upd H p (.dK [])) ρ fp ∧ NewOk K H fp F (upd H p (.dK [])) fp (.ref p) (.dk []) [p] := by
  refine ⟨(Grow.lay (.dK []) E.sub np).step E, .dk upd_same (E.sub.free np) rfl .nil, by simp, fun b hb => ?_, fun b hb ho => ?_⟩
  · rw [List.mem_singleton.mp hb]; exact .inl np
  · rw [List.mem_singleton.mp hb] at ho
    exact (E.there ho).1 np
theorem new_dt {K : Fg} {T : List Nat} {F H : Hp} {σ : Sg} {ρ : Rho} {fp : FP} {p : Addr} (E : EnvOk K F H σ ρ fp) (np : H p = none) :
    EStep K T F H σ ρ fp F (upd H p (.dT [])) ρ fp ∧ NewOk K H fp F (upd H p (.dT [])) fp (.ref p) (.dt []) [p] := by
  refine ⟨(Grow.lay (.dT []) E.sub np).step E, .dt upd_same (E.sub.free np) rfl .nil, by simp, fun b hb => ?_, fun b hb ho => ?_⟩
  · rw [List.mem_singleton.mp hb]; exact .inl np
  · rw [List.mem_singleton.mp hb] at ho
    exact (E.there ho).1 np
theorem vn_dk : VN X T W (.Dict [] [] pos) (nNew (.dk [])) := pe_imp pe_dnewK fun σ H Q ⟨F, ρ, fp, o, E, e, P⟩ => by
  cases ok_inj e
  intro p np
  have z := new_dk (T := T) E np
  exact P _ _ _ fp z.1 ⟨_, z.2⟩
theorem vn_dt : VN X T W (.Dict [] [] pos) (nNew (.dt [])) := pe_imp pe_dnewT fun σ H Q ⟨F, ρ, fp, o, E, e, P⟩ => by
  cases ok_inj e
  intro p np
  have z := new_dt (T := T) E np
  exact P _ _ _ fp z.1 ⟨_, z.2⟩
end
/-! ### d[k] = v: all values are data -/
section
variable {κ : Type} [DecidableEq κ]
def dats : List (κ × Tr) → Option (List (κ × PyData))
  | [] => some []
  | (k, .dat d) :: ts => (dats ts).map ((k, d) :: ·)
  | _ :: _ => none
def toT (ds : List (κ × PyData)) : List (κ × Tr) := ds.map fun p => (p.1, .dat p.2)
def putP (ds : List (κ × PyData)) (k : κ) (d : PyData) : List (κ × PyData) :=
  if (ds.any fun kv => decide (kv.1 = k)) = true then ds.map (fun kv => if kv.1 = k then (kv.1, d) else kv) else ds ++ [(k, d)]
theorem dats_ok {K : Fg} {F H : Hp} : ∀ {vs : List (κ × V)} {ts : List (κ × Tr)} {ds : List (κ × PyData)} {A : List Addr}, vs.map (·.1) = ts.map (·.1) → TrsOk K F H (vs.map (·.2)) (ts.map (·.2)) A → dats ts = some ds → A = [] ∧ Prs K F vs ds
  | [], [], ds, _, _, q, e => by
    simp only [dats] at e
    cases e
    cases q
    exact ⟨rfl, rfl, .nil⟩
  | [], _ :: _, _, _, h, _, _ => by simp at h
  | _ :: _, [], _, _, h, _, _ => by simp at h
  | (k1, v1) :: vs, (k2, t2) :: ts, ds, A, h, q, e => by
    simp only [List.map_cons, List.cons.injEq] at h
    obtain ⟨h1, h2⟩ := h
    subst h1
    cases t2 with
    | dat d =>
      simp only [dats] at e
      obtain ⟨es, e1, rfl⟩ := map_some e
      simp only [List.map_cons] at q
      cases q with
      | cons q1 q2 =>
        cases q1 with
        | dat q1 =>
          obtain ⟨a1, a2, a3⟩ := dats_ok h2 q2 e1
          subst a1
          exact ⟨rfl, by simp [a2], .cons q1 a3⟩
    | _ => simp [dats] at e
theorem prs_put {K : Fg} {F : Hp} {k : κ} {v : V} {d : PyData} (hv : Dq K F v d) {vs : List (κ × V)} {ds : List (κ × PyData)} (h : Prs K F vs ds) : Prs K F (putK vs k v) (putP ds k d) := by
  obtain ⟨h1, h2⟩ := h
  have ha : ∀ {vs : List (κ × V)} {ds : List (κ × PyData)}, vs.map (·.1) = ds.map (·.1) → (vs.any fun kv => decide (kv.1 = k)) = ds.any fun kv => decide (kv.1 = k) := by
    intro vs
    induction vs with
    | nil => intro ds e; cases ds with
      | nil => rfl
      | cons _ _ => simp at e
    | cons x vs ih => intro ds e; cases ds with
      | nil => simp at e
      | cons y ds =>
        simp only [List.map_cons, List.cons.injEq] at e
        simp only [List.any_cons, e.1, ih e.2]
  unfold putK putP
  rw [ha h1]
  split
  · have hm : ∀ {vs : List (κ × V)} {ds : List (κ × PyData)}, vs.map (·.1) = ds.map (·.1) → DqAll K F (vs.map (·.2)) (ds.map (·.2)) → Prs K F (vs.map fun kv => if kv.1 = k then (kv.1, v) else kv) (ds.map fun kv => if kv.1 = k then (kv.1, d) else kv) := by
      intro vs
      induction vs with
      | nil => intro ds e q; cases ds with
        | nil => exact ⟨rfl, .nil⟩
        | cons _ _ => simp at e
      | cons x vs ih => intro ds e q; cases ds with
        | nil => simp at e
        | cons y ds =>
          simp only [List.map_cons, List.cons.injEq] at e q
          cases q with
          | cons q1 q2 =>
            obtain ⟨a1, a2⟩ := ih e.2 q2
            by_cases hk : y.1 = k
            · refine ⟨?_, ?_⟩
              · simp only [List.map_cons, e.1, hk, if_true, List.cons.injEq, true_and]; exact a1
              · simp only [List.map_cons, e.1, hk, if_true]; exact .cons hv a2
            · refine ⟨?_, ?_⟩
              · simp only [List.map_cons, e.1, hk, if_false, List.cons.injEq, true_and]; exact a1
              · simp only [List.map_cons, e.1, hk, if_false]; exact .cons q1 a2
    exact hm h1 h2
  · refine ⟨by simp [h1], ?_⟩
    simp only [List.map_append, List.map_cons, List.map_nil]
    exact dqAll_app h2 (.cons hv .nil)
end
theorem toT_snd {κ : Type} {ds : List (κ × PyData)} : (toT ds).map (·.2) = (ds.map (·.2)).map .dat := by simp [toT]
theorem toT_fst {κ : Type} {ds : List (κ × PyData)} : (toT ds).map (·.1) = ds.map (·.1) := by simp [toT]
def dPut1 (T2 : List Nat) (d : PyData) (r : Nat × List Nat) (y : Rv) : MS := fun ρ => if T2.contains r.1 || !modeOk ρ r.1 then none else match y, treeAt ρ r with
  | .d kd, some (.dk kvs) => (match keyD kd, dats kvs with
    | some k, some ds => if small (ds.length + 1) then some (.nx (putAt ρ r (.dk (toT (putP ds k d))))) else none
    | _, _ => none)
  | .d kd, some (.dt kvs) => (match keyT kd, dats kvs with
    | some k, some ds => if small (ds.length + 1) then some (.nx (putAt ρ r (.dt (toT (putP ds k d))))) else none
    | _, _ => none)
  | _, _ => none
def sDPut (T2 : List Nat) (fe : M Rv) (f : M (Nat × List Nat)) (fk : M Rv) : MS := sE fe fun x => match x with
  | .d d => sE f fun r => sE fk (dPut1 T2 d r)
  | .o _ => fun _ => none
section
variable {X : Cx} {T1 T2 T3 T4 : List Nat} {W : WV} {fe fk : M Rv} {fp1 : M (Nat × List Nat)} {i o e : Expr} {pos pos' : Pos}
theorem vs_dput (hu : X.A.units + 1 < cLine) (he : VE X T1 W e fe) (ho : VP X T2 W o fp1) (hi : VE X T3 W i fk) (hT : T3 = T4 := by rfl) (hs : swapsWith e (some (.Subscript o i pos')) pos.line X.env = pure false := by rfl) :
    VS X W (.Assign [.Subscript o i pos'] e pos) (sDPut T4 fe fp1 fk) :=
  ps_imp (ps_dput hu ho hi he hs) fun D σ H ⟨F, ρ, fp, ou, E, q, P⟩ => by
    subst hT
    refine tv_st E q P fun x ρ1 v H1 F1 fp1 s1 r1 e1 P1 => ?_
    cases x with
    | o _ => cases e1
    | d d =>
      refine tv_st (T := T2) s1.env e1 P1 fun r ρ2 w H2 F2 fp2 s2 r2 e2 P2 => ?_
      refine tv_st (T := T3) s2.env e2 P2 fun y ρ3 z H3 F3 fp3 s3 r3 e3 _ => ?_
      unfold dPut1 at e3
      split at e3
      · cases e3
      · rename_i hc
        obtain ⟨hT, hc'⟩ := touch_of hc
        have pl := place_step s2.env s3 hT r2
        have hd3 : Dq X.K F3 v d := dq_mono (s2.st.fr.trans s3.st.fr) _ _ r1
        split at e3
        · rename_i kd kvs hts
          split at e3
          · rename_i k ds hk hds
            split at e3
            · rename_i hsm
              cases (Option.some.inj e3)
              have ez := keyD_ok (show Dq X.K F3 z kd from r3) hk
              subst ez
              obtain ⟨B, qB, hB⟩ := place_get s3.env pl hts
              obtain ⟨u, m, t, t', h1, h2, h3, h4⟩ := pl
              have ht' : t.at r.2 = some (.dk kvs) := by
                unfold treeAt at hts
                rw [h2] at hts
                exact hts
              cases qB with
              | @dk a vs _ B0 f1 f2 f3 f4 =>
                obtain ⟨_, pr⟩ := dats_ok f3 f4 hds
                have pp := prs_put (k := k) hd3 pr
                obtain ⟨fp', st, _⟩ := mut_step (A := []) (o := .dK (putK vs k v)) (t'' := .dk (toT (putP ds k d))) s3 h2 (mode_of hc' h2) h1 ht' h4 (fun b hb => nomatch hb) List.nodup_nil (fun b hb => nomatch hb) fun B1 q1 nB1 _ => by
                  cases q1 with
                  | @dk a _ _ B2 g1 g2 g3 g4 =>
                    refine ⟨List.mem_cons_self, [a], .dk upd_same g2 (by rw [toT_fst]; exact pp.1) ?_, by simp, fun b hb => .inl ?_⟩
                    · rw [toT_snd]
                      exact trs_dat pp.2
                    · rw [List.mem_singleton.mp hb]; exact List.mem_cons_self
                have e : putAt ρ3 r (.dk (toT (putP ds k d))) = ρ3.set r.1 (.own m (t.put r.2 (.dk (toT (putP ds k d))))) := by
                  unfold putAt
                  rw [h2]
                have hl : vs.length = ds.length := by
                  have := congrArg List.length pr.1
                  simpa using this
                refine ⟨a, _, rfl, DPut.k f1 (by have := small_iff.mp hsm; omega), P2 σ _ F3 fp' ?_⟩
                rw [e]
                exact st.st
            · cases e3
          · cases e3
        · rename_i kd kvs hts
          split at e3
          · rename_i k ds hk hds
            split at e3
            · rename_i hsm
              cases (Option.some.inj e3)
              obtain ⟨b, rfl, hbk⟩ := keyT_ok (show Dq X.K F3 z kd from r3) hk
              obtain ⟨B, qB, hB⟩ := place_get s3.env pl hts
              obtain ⟨u, m, t, t', h1, h2, h3, h4⟩ := pl
              have ht' : t.at r.2 = some (.dt kvs) := by
                unfold treeAt at hts
                rw [h2] at hts
                exact hts
              cases qB with
              | @dt a vs _ B0 f1 f2 f3 f4 =>
                obtain ⟨_, pr⟩ := dats_ok f3 f4 hds
                have pp := prs_put (k := k) hd3 pr
                obtain ⟨fp', st, _⟩ := mut_step (A := []) (o := .dT (putK vs k v)) (t'' := .dt (toT (putP ds k d))) s3 h2 (mode_of hc' h2) h1 ht' h4 (fun b hb => nomatch hb) List.nodup_nil (fun b hb => nomatch hb) fun B1 q1 nB1 _ => by
                  cases q1 with
                  | @dt a _ _ B2 g1 g2 g3 g4 =>
                    refine ⟨List.mem_cons_self, [a], .dt upd_same g2 (by rw [toT_fst]; exact pp.1) ?_, by simp, fun b hb => .inl ?_⟩
                    · rw [toT_snd]
                      exact trs_dat pp.2
                    · rw [List.mem_singleton.mp hb]; exact List.mem_cons_self
                have e : putAt ρ3 r (.dt (toT (putP ds k d))) = ρ3.set r.1 (.own m (t.put r.2 (.dt (toT (putP ds k d))))) := by
                  unfold putAt
                  rw [h2]
                have hl : vs.length = ds.length := by
                  have := congrArg List.length pr.1
                  simpa using this
                refine ⟨a, _, rfl, DPut.t f1 (s3.env.sub _ _ hbk) (by have := small_iff.mp hsm; omega), P2 σ _ F3 fp' ?_⟩
                rw [e]
                exact st.st
            · cases e3
          · cases e3
        · cases e3
end
theorem hu1 {n : Nat} (h : n + 65 < cLine) : n + 1 < cLine := by omega
end VL

end

section
set_option Elab.async false
set_option linter.all false
set_option maxRecDepth 100000
/-! sorted(xs) of data -/
namespace VL
open PySem PySem.Spec PyProof.Rows L2 PySem.W
section
variable {X : Cx} {K : Fg}
/-- pairs of a value and what it reads as -/
def rSortD (K : Fg) : List V → Hp → VK → Prop := fun xs H Q => ∃ (a : Addr) (bs : List (V × PyData)), xs = [.ref a] ∧ Rd H a (.lst (bs.map (·.1))) ∧ (∀ b ∈ bs, Dp K H b.1 b.2 ∧ b.2.depth ≤ 60) ∧ AllAlike (bs.map (·.2)) ∧ Sortable (bs.map (·.2)) ∧
  ∀ p, H p = none → Q (.ref p) (upd H p (.lst ((bs.mergeSort (dataLe false (·.2))).map (·.1))))
theorem each_vals : ∀ {bs : List (V × PyData)} {us : List Value}, Vals (bs.map (·.1)) us → EachIs (fun v (b : V × PyData) => RelV b.1 v) us bs
  | [], us, r => by cases r; exact .nil
  | b :: bs, us, r => by
    cases r with
    | cons r t => exact .cons r (each_vals t)
theorem vals_each : ∀ {bs : List (V × PyData)} {us : List Value}, EachIs (fun v (b : V × PyData) => RelV b.1 v) us bs → Vals (bs.map (·.1)) us
  | _, _, .nil => .nil
  | _, _, .cons r t => .cons r (vals_each t)
theorem each_reads {pins : List (Addr × Obj)} {σ : Sg} {H : Hp} {s : Shared} (I : L2.Inv X pins σ H s) : ∀ {bs : List (V × PyData)} {us : List Value}, (∀ b ∈ bs, Dp X.K H b.1 b.2) → Vals (bs.map (·.1)) us → EachIs (fun v (b : V × PyData) => ∃ as, Reads s.heap v b.2 as) us bs
  | [], us, _, r => by cases r; exact .nil
  | b :: bs, us, h, r => by
    cases r with
    | cons r t => exact .cons (Dp.reads I _ _ _ (h b List.mem_cons_self) r) (each_reads I (fun c hc => h c (List.mem_cons_of_mem _ hc)) t)
theorem cr_sortD (hu : X.A.units + 65 < cLine) : CallR X (.builtin "sorted") (rSortD X.K) := by
  intro pins s σ H xs us Q I r h
  obtain ⟨a, bs, rfl, hs, hb, hal, hk, q⟩ := h
  obtain ⟨its, rv, hl, hz⟩ := I.list (.inl hs)
  rw [Vals.ref1 r]
  have hz' : bs.length ≤ sizeLine := by simpa using hz
  refine sorted_data (vs := its) (bs := bs) (enc := (·.2)) (R := fun v b => RelV b.1 v) hl.isList (each_vals rv) (each_reads I (fun b hm => (hb b hm).1) rv) hal hk hz' (fun b hm => by have := (hb b hm).2; show X.A.units + 2 + b.2.depth < cLine; omega) fun out ho he => ?_
  obtain ⟨c, hc⟩ := sortedAll_at s.heap its out.toArray
  have vs := vals_each he
  refine ⟨.ref (s.heap.objs.size + 1), _, I.laid (t' := s.toks) (o := .lst ((bs.mergeSort (dataLe false (·.2))).map (·.1))) (fun b ob q => sortedAll_old q) (Nat.le_succ _) ⟨?_, out, c, vs, hc⟩, rfl, q _ (I.hok.fresh (Nat.le_succ _))⟩
  rw [vs.length, ho]
  exact hz'
end
end VL

end

section
set_option Elab.async false
set_option linter.all false
set_option maxRecDepth 100000
/-! list(zip(a, b)): two lists -/
namespace VL
open PySem PySem.Spec PyProof.Rows L2
theorem ne_ge {a B b : Nat} (h : a < B) (h' : B ≤ b) : b ≠ a := by omega
theorem ne_le {a B b : Nat} (h : a < B) (h' : B ≤ b) : a ≠ b := by omega
/-- a zip's state at turn i -/
def ZSt (z TI TO i1 i2 l1 l2 : Addr) (xs ys : Array Value) (S : Addr) (i : Nat) (h : Heap) : Prop :=
  IsPair h TI (.ref i1) (.ref i2) ∧ h.IsListIter i1 l1 i ∧ h.IsListIter i2 l2 i ∧ h.IsList l1 xs ∧ h.IsList l2 ys ∧
    ((IsZip h z TI TO .none ∧ ∃ a b, IsPair h TO a b) ∨ ∃ T f oT, IsZipHeld h z TI TO T f ∧ h.get? T = some oT ∧ T ≠ z ∧ T ≠ i1 ∧ T ≠ i2 ∧ T ≠ S)
structure ZAp (z TI TO i1 i2 l1 l2 S : Addr) : Prop where
  sz : S ≠ z
  sTI : S ≠ TI
  sTO : S ≠ TO
  s1 : S ≠ i1
  s2 : S ≠ i2
  sl1 : S ≠ l1
  sl2 : S ≠ l2
theorem ZSt.frame {z TI TO i1 i2 l1 l2 S : Addr} {xs ys : Array Value} {i : Nat} {h h' : Heap} (D : ZAp z TI TO i1 i2 l1 l2 S) (st : ZSt z TI TO i1 i2 l1 l2 xs ys S i h) (k : ∀ b o, b ≠ S → h.get? b = some o → h'.get? b = some o) : ZSt z TI TO i1 i2 l1 l2 xs ys S i h' := by
  obtain ⟨a1, a2, a3, a4, a5, a6⟩ := st
  refine ⟨k _ _ D.sTI.symm a1, a2.at fun o e => k _ o D.s1.symm e, a3.at fun o e => k _ o D.s2.symm e, a4.at fun o e => k _ o D.sl1.symm e, a5.at fun o e => k _ o D.sl2.symm e, ?_⟩
  rcases a6 with ⟨hz, a, b, hTO⟩ | ⟨T, f, oT, hz, hT, r1, r2, r3, r4⟩
  · exact .inl ⟨k _ _ D.sz.symm hz, a, b, k _ _ D.sTO.symm hTO⟩
  · exact .inr ⟨T, f, oT, k _ _ D.sz.symm hz, k _ _ r4 hT, r1, r2, r3, r4⟩
/-- the tuples made so far -/
def Made (B : Nat) (Ts : List Addr) (xs ys : Array Value) (h : Heap) : Prop := (∀ T ∈ Ts, B ≤ T) ∧ Ts.Nodup ∧ ∀ (j : Nat) (T : Addr), Ts[j]? = some T → ∃ x y, xs[j]? = some x ∧ ys[j]? = some y ∧ IsPair h T x y
section
variable {prog : Program} {w : World} {A : Around} {R : Result → Shared → Prop} {z TI TO i1 i2 l1 l2 S : Addr} {xs ys : Array Value}
theorem zip_loop (hh : A.handled = none) (D : ZipApart z TI TO i1 i2 l1 l2) (Z : ZAp z TI TO i1 i2 l1 l2 S) (hl : xs.size = ys.size) (hn : xs.size ≤ sizeLine) (res : Value) (B : Nat) (hBz : z < B) (hBi : i1 < B) (hBj : i2 < B) (hBS : S < B) (hBO : TO < B) :
    ∀ (k i : Nat) (s : Shared) (Ts : List Addr) (c : Nat), xs.size - i = k → i ≤ xs.size → ZSt z TI TO i1 i2 l1 l2 xs ys S i s.heap → B ≤ s.heap.objs.size → (∀ T ∈ Ts, T < s.heap.objs.size) → Ts.length = i → Made B Ts xs ys s.heap →
    s.heap.get? S = some { cls := .type "list", dict := none, data := .seq (Ts.map Value.ref).toArray c, slots := #[] } →
    (∀ h' Ts' c', (∀ b o, b < B → b ≠ z → b ≠ TO → b ≠ i1 → b ≠ i2 → b ≠ S → s.heap.get? b = some o → h'.get? b = some o) → Ts'.length = xs.size → Made B Ts' xs ys h' →
      h'.get? S = some { cls := .type "list", dict := none, data := .seq (Ts'.map Value.ref).toArray c', slots := #[] } → R (.ok (.ret res)) { s with heap := h' }) →
    codeAny (model prog w) A (.builtin "list.extend.loop" ⟨[.ref S, .ref z, res], []⟩) R s := by
  intro k
  induction k with
  | zero =>
    intro i s Ts c hk hi hst hB hTs hTl hM hS hR
    have hin : i = xs.size := by omega
    subst hin
    refine codeAny_builtin F.entry_extend_loop ?_
    rw [Around.under_plainId F.plain_extend_loop _]
    show wpAny _ A.in1 (pyNext (.ref z) >>= _) _ _ s
    have hend : xs[xs.size]? = none ∨ ys[xs.size]? = none := .inl (Array.getElem?_eq_none (Nat.le_refl _))
    obtain ⟨hTI, h1, h2, hl1, hl2, hz⟩ := hst
    have ne : ∀ T ∈ Ts, T ≠ z ∧ T ≠ TO ∧ T ≠ i1 ∧ T ≠ i2 ∧ T ≠ S := fun T hT => by
      have := hM.1 T hT
      exact ⟨ne_ge hBz this, ne_ge hBO this, ne_ge hBi this, ne_ge hBj this, ne_ge hBS this⟩
    have memT : ∀ {j : Nat} {T : Addr}, Ts[j]? = some T → T ∈ Ts := fun e => List.mem_of_getElem? e
    rcases hz with ⟨hz, a, b, hTO⟩ | ⟨T, f, oT, hz, hT, r1, r2, r3, r4⟩
    · refine wpAny_bind (wpAny_pyNext_zip_end (A := A.in1) hh D hz hTI hTO h1 h2 hl1 hl2 hend fun h' hk => ?_)
      refine wpAny_pure (hR h' Ts c (fun b o _ b1 b2 b3 b4 _ e => hk b o b1 b2 b3 b4 e) hTl ⟨hM.1, hM.2.1, fun j T e => ?_⟩ (hk S _ Z.sz Z.sTO Z.s1 Z.s2 hS))
      obtain ⟨x, y, e1, e2, e3⟩ := hM.2.2 j T e
      obtain ⟨n1, n2, n3, n4, n5⟩ := ne T (memT e)
      exact ⟨x, y, e1, e2, hk T _ n1 n2 n3 n4 e3⟩
    · refine wpAny_bind (wpAny_pyNext_zip_end_held (A := A.in1) hh D hz hT hTI h1 h2 hl1 hl2 hend fun h' hk => ?_)
      refine wpAny_pure (hR h' Ts c (fun b o _ b1 b2 b3 b4 _ e => hk b o b1 b3 b4 e) hTl ⟨hM.1, hM.2.1, fun j T e => ?_⟩ (hk S _ Z.sz Z.s1 Z.s2 hS))
      obtain ⟨x, y, e1, e2, e3⟩ := hM.2.2 j T e
      obtain ⟨n1, n2, n3, n4, n5⟩ := ne T (memT e)
      exact ⟨x, y, e1, e2, hk T _ n1 n3 n4 e3⟩
  | succ k ih =>
    intro i s Ts c hk hi hst hB hTs hTl hM hS hR
    have hlt : i < xs.size := by omega
    have hlt2 : i < ys.size := by omega
    refine codeAny_builtin F.entry_extend_loop ?_
    rw [Around.under_plainId F.plain_extend_loop _]
    show wpAny _ A.in1 (pyNext (.ref z) >>= _) _ _ s
    have ex := Array.getElem?_eq_getElem hlt
    have ey := Array.getElem?_eq_getElem hlt2
    have ne : ∀ T ∈ Ts, T ≠ z ∧ T ≠ TO ∧ T ≠ i1 ∧ T ≠ i2 ∧ T ≠ S := fun T hT => by
      have := hM.1 T hT
      exact ⟨ne_ge hBz this, ne_ge hBO this, ne_ge hBi this, ne_ge hBj this, ne_ge hBS this⟩
    have memT : ∀ {j : Nat} {T : Addr}, Ts[j]? = some T → T ∈ Ts := fun e => List.mem_of_getElem? e
    -- what follows, whichever way the tuple came
    have go : ∀ h', ZSt z TI TO i1 i2 l1 l2 xs ys S (i + 1) h' → h'.objs.size = s.heap.objs.size + 1 → IsPair h' s.heap.objs.size xs[i] ys[i] → (∀ b o, b ≠ z → b ≠ TO → b ≠ i1 → b ≠ i2 → s.heap.get? b = some o → h'.get? b = some o) →
        wpAny (model prog w) A.in1 (updateSeq S (·.push (.ref s.heap.objs.size)) >>= fun _ => again (.builtin "list.extend.loop" ⟨[.ref S, .ref z, res], []⟩))
          (fun fin s' => match fin with | .done f => R (.ok f) s' | .again c' => c'.quiet = true ∧ codeAny (model prog w) A c' R s') (fun e s' => R (.error e) s') { s with heap := h' } := by
      intro h' st' hsz hp hkp
      have hS' := hkp S _ Z.sz Z.sTO Z.s1 Z.s2 hS
      have hsize : (Ts.map Value.ref).toArray.size = i := by simp [hTl]
      have eT : ((Ts ++ [s.heap.objs.size]).map Value.ref).toArray = (Ts.map Value.ref).toArray.push (.ref s.heap.objs.size) := by simp
      obtain ⟨c2, hS2⟩ : ∃ c2, (h'.update S (Obj.mapSeq (·.push (Value.ref s.heap.objs.size)))).get? S = some { cls := .type "list", dict := none, data := .seq ((Ts ++ [s.heap.objs.size]).map Value.ref).toArray c2, slots := #[] } := ⟨_, by
        rw [eT]
        exact Heap.get?_update_self _ hS' rfl⟩
      refine wpAny_bind ?_
      refine wpAny_updateSeq (s := { s with heap := h' }) hS' rfl (wpAny_pure ⟨plainId_quiet F.plain_extend_loop _, ih (i + 1) _ (Ts ++ [s.heap.objs.size]) c2 (by omega) hlt ?_ ?_ ?_ (by simp [hTl]) ?_ hS2 fun h'' Ts' c' q1 q2 q3 q4 => ?_⟩) (by rw [hsize]; omega) (by show ((Ts.map Value.ref).toArray.push _).size ≤ sizeLine + 1; rw [Array.size_push, hsize]; omega)
      · exact st'.frame Z fun b o hb e => (Heap.get?_update_other _ _ (Ne.symm hb)).trans e
      · show B ≤ (h'.update S _).objs.size
        rw [Heap.size_update, hsz]; omega
      · intro T hT
        show T < (h'.update S _).objs.size
        rw [Heap.size_update, hsz]
        rcases List.mem_append.mp hT with q | q
        · exact Nat.lt_succ_of_lt (hTs T q)
        · rw [List.mem_singleton.mp q]; exact Nat.lt_succ_self _
      · refine ⟨fun T hT => ?_, ?_, fun j T e => ?_⟩
        · rcases List.mem_append.mp hT with q | q
          · exact hM.1 T q
          · rw [List.mem_singleton.mp q]; exact hB
        · refine List.nodup_append.mpr ⟨hM.2.1, by simp, fun a ha b hb => ?_⟩
          rw [List.mem_singleton.mp hb]
          exact Nat.ne_of_lt (hTs a ha)
        · by_cases hj : j < Ts.length
          · rw [List.getElem?_append_left hj] at e
            obtain ⟨x, y, e1, e2, e3⟩ := hM.2.2 j T e
            obtain ⟨n1, n2, n3, n4, n5⟩ := ne T (memT e)
            exact ⟨x, y, e1, e2, (Heap.get?_update_other _ _ (Ne.symm n5)).trans (hkp T _ n1 n2 n3 n4 e3)⟩
          · have hj2 : j = Ts.length := by
              have := (List.getElem?_eq_some_iff.mp e).1
              simp at this
              omega
            subst hj2
            simp at e
            subst e
            rw [hTl]
            refine ⟨xs[i], ys[i], ex, ey, (Heap.get?_update_other _ _ (Nat.ne_of_lt (Nat.lt_of_lt_of_le hBS hB))).trans hp⟩
      · exact hR h'' Ts' c' (fun b o b0 b1 b2 b3 b4 b5 e => q1 b o b0 b1 b2 b3 b4 b5 ((Heap.get?_update_other _ _ (Ne.symm b5)).trans (hkp b o b1 b2 b3 b4 e))) q2 q3 q4
    obtain ⟨hTI, h1, h2, hl1, hl2, hz⟩ := hst
    have lt : ∀ {c o}, s.heap.get? c = some o → s.heap.objs.size ≠ c := fun e => Nat.ne_of_gt (Heap.lt_size e)
    have n1 : s.heap.objs.size ≠ i1 := ne_ge hBi hB
    have n2 : s.heap.objs.size ≠ i2 := ne_ge hBj hB
    have n3 : s.heap.objs.size ≠ z := ne_ge hBz hB
    have n4 : s.heap.objs.size ≠ S := ne_ge hBS hB
    rcases hz with ⟨hz, a, b, hTO⟩ | ⟨T, f, oT, hz, hT, r1, r2, r3, r4⟩
    · refine wpAny_bind (wpAny_pyNext_zip_item D hz hTI hTO h1 h2 hl1 hl2 ex ey fun h' a1 a2 a3 a4 a5 a6 hk => ?_)
      exact go h' ⟨hk _ _ D.TIz D.TITO D.TIi1 D.TIi2 hTI, a3, a4, hl1.at fun o e => hk _ o D.l1z D.l1TO D.l1i1 D.l1i2 e, hl2.at fun o e => hk _ o D.l2z D.l2TO D.l2i1 D.l2i2 e,
        .inr ⟨s.heap.objs.size, false, _, a1, a5, n3, n1, n2, n4⟩⟩ a6 a5 hk
    · refine wpAny_bind (wpAny_pyNext_zip_item_held D hz hT hTI h1 h2 hl1 hl2 ex ey fun h' a1 a3 a4 a5 a6 hk => ?_)
      exact go h' ⟨hk _ _ D.TIz D.TIi1 D.TIi2 hTI, a3, a4, hl1.at fun o e => hk _ o D.l1z D.l1i1 D.l1i2 e, hl2.at fun o e => hk _ o D.l2z D.l2i1 D.l2i2 e,
        .inr ⟨T, true, oT, a1, hk _ _ r1 r2 r3 hT, r1, r2, r3, r4⟩⟩ a6 a5 fun b o b1 _ b3 b4 e => hk b o b1 b3 b4 e
theorem zip_no_len : typeLookup (.type "zip") "__len__" = pure none := am_miss_of_fast (by decide +kernel)
theorem zip_no_hint : typeLookup (.type "zip") "__length_hint__" = pure none := am_miss_of_fast (by decide +kernel)
variable {s : Shared} {E : Value → Shared → Prop}
theorem zip_extend (hh : A.handled = none) (D : ZipApart z TI TO i1 i2 l1 l2) (Z : ZAp z TI TO i1 i2 l1 l2 S) (hl : xs.size = ys.size) (hn : xs.size ≤ sizeLine) (res : Value) (c₀ : Nat) (hz : IsZip s.heap z TI TO .none) (hst : ZSt z TI TO i1 i2 l1 l2 xs ys S 0 s.heap)
    (hS : s.heap.get? S = some { cls := .type "list", data := .seq #[] c₀ }) (hBz : z < s.heap.objs.size) (hBi : i1 < s.heap.objs.size) (hBj : i2 < s.heap.objs.size) (hBS : S < s.heap.objs.size) (hBO : TO < s.heap.objs.size)
    (hR : ∀ h' Ts' c', (∀ b o, b < s.heap.objs.size → b ≠ z → b ≠ TO → b ≠ i1 → b ≠ i2 → b ≠ S → s.heap.get? b = some o → h'.get? b = some o) → Ts'.length = xs.size → Made s.heap.objs.size Ts' xs ys h' →
      h'.get? S = some { cls := .type "list", dict := none, data := .seq (Ts'.map Value.ref).toArray c', slots := #[] } → R (.ok (.ret res)) { s with heap := h' }) :
    wpAny (model prog w) A.in1 (Builtin.List.listExtendWith (.ref S) (.ref z) res)
      (fun fin s' => match fin with | .done f => R (.ok f) s' | .again c' => c'.quiet = true ∧ codeAny (model prog w) A c' R s') (fun e s' => R (.error e) s') s := by
  have hSI : S ≠ z := Z.sz
  have hT : s.TypeIs (.ref z) "zip" := ⟨_, hz, rfl⟩
  unfold Builtin.List.listExtendWith
  refine wpAny_bind (wpAny_typeOf hT ?_)
  have h1 : Builtin.List.listSameRef (.ref S) (.ref z) = false := by simp [Builtin.List.listSameRef, hSI]
  have h2 : (Value.type "zip" == Value.type "list") = false := by decide
  have h3 : (Value.type "zip" == Value.type "tuple") = false := by decide
  simp only [h1, h2, h3, Bool.or_false, Bool.false_eq_true, if_false]
  refine wpAny_bind (wpAny_pyIter_zip hz ?_)
  refine wpAny_bind (wpAny_holding ?_)
  unfold Builtin.List.listLengthHint
  refine wpAny_bind (wpAny_specialOf hT zip_no_len ?_)
  show wpAny _ A.in1 (specialOf (Value.ref z) (Str.ofString "__length_hint__") >>= _) _ _ _
  refine wpAny_bind (wpAny_specialOf hT zip_no_hint ?_)
  refine wpAny_pure ?_
  show wpAny _ A.in1 (rule "list.extend.makes-room" >>= fun _ => Builtin.List.listTouch (.ref S) >>= fun _ =>
    again (.builtin "list.extend.loop" ⟨[.ref S, .ref z, res], []⟩)) _ _ _
  refine wpAny_bind (wpAny_rule ?_)
  refine wpAny_bind ?_
  show wpAny _ A.in1 (updateSeq S (·.push .none) >>= fun _ => updateSeq S (·.pop)) _ _ _
  refine wpAny_bind (wpAny_updateSeq hS rfl ?_)
  have hS₂ := Heap.get?_update_self (Obj.mapSeq (·.push Value.none)) hS rfl
  refine wpAny_updateSeq (hz := by seq_fits) hS₂ rfl ?_
  have hS₃ := Heap.get?_update_self (Obj.mapSeq (·.pop)) hS₂ rfl
  have oth : ∀ b o, b ≠ S → s.heap.get? b = some o → ((s.heap.update S (Obj.mapSeq (·.push Value.none))).update S (Obj.mapSeq (·.pop))).get? b = some o :=
    fun b o hb e => (Heap.get?_update_other _ _ (Ne.symm hb)).trans ((Heap.get?_update_other _ _ (Ne.symm hb)).trans e)
  have hsz : ((s.heap.update S (Obj.mapSeq (·.push Value.none))).update S (Obj.mapSeq (·.pop))).objs.size = s.heap.objs.size := by rw [Heap.size_update, Heap.size_update]
  refine wpAny_pure ⟨plainId_quiet F.plain_extend_loop _, zip_loop hh D Z hl hn res s.heap.objs.size hBz hBi hBj hBS hBO xs.size 0 _ [] _ rfl (Nat.zero_le _) (hst.frame Z fun b o hb e => oth b o hb e)
    (Nat.le_of_eq hsz.symm) (fun T hT => nomatch hT) rfl ⟨(fun T hT => nomatch hT), List.nodup_nil, fun j T e => by simp at e⟩ hS₃ fun h' Ts' c' q1 q2 q3 q4 => ?_⟩
  exact hR h' Ts' c' (fun b o b0 b1 b2 b3 b4 b5 e => q1 b o b0 b1 b2 b3 b4 b5 (oth b o b5 e)) q2 q3 q4
theorem zip_list_init (hh : A.handled = none) (D : ZipApart z TI TO i1 i2 l1 l2) (Z : ZAp z TI TO i1 i2 l1 l2 S) (hl : xs.size = ys.size) (hn : xs.size ≤ sizeLine) (hz : IsZip s.heap z TI TO .none) (hst : ZSt z TI TO i1 i2 l1 l2 xs ys S 0 s.heap)
    (hS : s.heap.get? S = some { cls := .type "list", data := .seq #[] }) (hBz : z < s.heap.objs.size) (hBi : i1 < s.heap.objs.size) (hBj : i2 < s.heap.objs.size) (hBS : S < s.heap.objs.size) (hBO : TO < s.heap.objs.size)
    (hR : ∀ h' Ts' c', (∀ b o, b < s.heap.objs.size → b ≠ z → b ≠ TO → b ≠ i1 → b ≠ i2 → b ≠ S → s.heap.get? b = some o → h'.get? b = some o) → Ts'.length = xs.size → Made s.heap.objs.size Ts' xs ys h' →
      h'.get? S = some { cls := .type "list", dict := none, data := .seq (Ts'.map Value.ref).toArray c', slots := #[] } → R (.ok (.ret .none)) { s with heap := h' }) :
    wpAny (model prog w) A.in1 (Builtin.«list.__init__» ⟨[.ref S, .ref z], []⟩)
      (fun fin s' => match fin with | .done f => R (.ok f) s' | .again c' => c'.quiet = true ∧ codeAny (model prog w) A c' R s') (fun e s' => R (.error e) s') s := by
  show wpAny _ A.in1 (do let old ← Builtin.List.listItems (.ref S); Builtin.List.listUpdate (.ref S) (fun _ => #[]); letGo old.toList.reverse; Builtin.List.listExtendWith (.ref S) (.ref z) .none) _ _ s
  refine wpAny_bind ?_
  unfold Builtin.List.listItems
  refine wpAny_bind (wpAny_seqItems hS rfl (wpAny_pure ?_))
  show wpAny _ A.in1 (updateSeq S (fun _ => #[]) >>= fun _ => letGo (#[] : Array Value).toList.reverse >>= fun _ => Builtin.List.listExtendWith (.ref S) (.ref z) .none) _ _ s
  refine wpAny_bind (wpAny_updateSeq hS rfl ?_)
  have hS₂ := Heap.get?_update_self (Obj.mapSeq (fun _ => (#[] : Array Value))) hS rfl
  have oth : ∀ b o, b ≠ S → s.heap.get? b = some o → (s.heap.update S (Obj.mapSeq (fun _ => (#[] : Array Value)))).get? b = some o :=
    fun b o hb e => (Heap.get?_update_other _ _ (Ne.symm hb)).trans e
  have hsz : (s.heap.update S (Obj.mapSeq (fun _ => (#[] : Array Value)))).objs.size = s.heap.objs.size := Heap.size_update ..
  refine wpAny_bind (wpAny_letGo ?_)
  refine zip_extend (s := { s with heap := s.heap.update S (Obj.mapSeq (fun _ => (#[] : Array Value))) }) hh D Z hl hn .none _ (oth _ _ Z.sz.symm hz) (hst.frame Z fun b o hb e => oth b o hb e) hS₂ (by rw [hsz]; exact hBz) (by rw [hsz]; exact hBi) (by rw [hsz]; exact hBj) (by rw [hsz]; exact hBS) (by rw [hsz]; exact hBO) fun h' Ts' c' q1 q2 q3 q4 => ?_
  exact hR h' Ts' c' (fun b o b0 b1 b2 b3 b4 b5 e => q1 b o (by rw [hsz]; exact b0) b1 b2 b3 b4 b5 (oth b o b5 e)) q2 (by rw [hsz] at q3; exact q3) q4
theorem call_list_zip {Q : Value → Shared → Prop} (hh : A.handled = none) (D : ZipApart z TI TO i1 i2 l1 l2) (hl : xs.size = ys.size) (hn : xs.size ≤ sizeLine) (hz : IsZip s.heap z TI TO .none) (hTI : IsPair s.heap TI (.ref i1) (.ref i2)) (hTO : IsPair s.heap TO .none .none)
    (h1 : s.heap.IsListIter i1 l1 0) (h2 : s.heap.IsListIter i2 l2 0) (hl1 : s.heap.IsList l1 xs) (hl2 : s.heap.IsList l2 ys)
    (hQ : ∀ h' Ts' c', (∀ b o, b ≠ z → b ≠ TO → b ≠ i1 → b ≠ i2 → s.heap.get? b = some o → h'.get? b = some o) → Ts'.length = xs.size → Made (s.heap.objs.size + 1) Ts' xs ys h' →
      h'.get? s.heap.objs.size = some { cls := .type "list", dict := none, data := .seq (Ts'.map Value.ref).toArray c', slots := #[] } → Q (.ref s.heap.objs.size) { s with heap := h' }) :
    wpAny (model prog w) A (call (.type "list") [.ref z]) Q E s := by
  refine callType_codes (Q₁ := fun obj s₁ => obj = .ref s.heap.objs.size ∧ s₁ = { s with heap := s.heap.push { cls := .type "list", data := .seq #[] } }) F.called_list (F.typeCall_list_1 _) F.entry_list_init
    (code_list_new _ ⟨rfl, rfl⟩) fun obj s₁ h₁ => ?_
  obtain ⟨rfl, rfl⟩ := h₁
  have hS : (s.heap.push { cls := .type "list", data := .seq #[] }).get? s.heap.objs.size = some { cls := .type "list", data := .seq #[] } := Heap.get?_push_size _ rfl
  have lz := Heap.lt_size hz
  have lTI := Heap.lt_size hTI
  have lTO := Heap.lt_size hTO
  have li1 : i1 < s.heap.objs.size := by obtain ⟨o, e, _⟩ := h1; exact Heap.lt_size e
  have li2 : i2 < s.heap.objs.size := by obtain ⟨o, e, _⟩ := h2; exact Heap.lt_size e
  have ll1 : l1 < s.heap.objs.size := by obtain ⟨o, e, _⟩ := hl1; exact Heap.lt_size e
  have ll2 : l2 < s.heap.objs.size := by obtain ⟨o, e, _⟩ := hl2; exact Heap.lt_size e
  have Z : ZAp z TI TO i1 i2 l1 l2 s.heap.objs.size := ⟨Nat.ne_of_gt lz, Nat.ne_of_gt lTI, Nat.ne_of_gt lTO, Nat.ne_of_gt li1, Nat.ne_of_gt li2, Nat.ne_of_gt ll1, Nat.ne_of_gt ll2⟩
  have kp : ∀ b o, s.heap.get? b = some o → (s.heap.push { cls := .type "list", data := .seq #[] }).get? b = some o := fun b o e => Heap.get?_push_of_some _ e
  have hsz : (s.heap.push { cls := .type "list", data := .seq #[] }).objs.size = s.heap.objs.size + 1 := Heap.size_push ..
  refine ⟨⟨_, hS, rfl⟩, F.args_list_init_2 _ _, zip_list_init (A := A.in1) (s := { s with heap := s.heap.push { cls := .type "list", data := .seq #[] } }) hh D Z hl hn (kp _ _ hz)
    ⟨kp _ _ hTI, h1.at fun o e => kp _ _ e, h2.at fun o e => kp _ _ e, hl1.at fun o e => kp _ _ e, hl2.at fun o e => kp _ _ e, .inl ⟨kp _ _ hz, _, _, kp _ _ hTO⟩⟩ hS (by rw [hsz]; exact Nat.lt_succ_of_lt lz) (by rw [hsz]; exact Nat.lt_succ_of_lt li1) (by rw [hsz]; exact Nat.lt_succ_of_lt li2) (by rw [hsz]; exact Nat.lt_succ_self _) (by rw [hsz]; exact Nat.lt_succ_of_lt lTO) fun h' Ts' c' q1 q2 q3 q4 => ?_⟩
  refine ⟨rfl, hQ h' Ts' c' (fun b o b1 b2 b3 b4 e => q1 b o (by rw [hsz]; exact Nat.lt_succ_of_lt (Heap.lt_size e)) b1 b2 b3 b4 (Nat.ne_of_lt (Heap.lt_size e)) (kp b o e)) q2 (by rw [hsz] at q3; exact q3) q4⟩
end
/-! ### the rule -/
section
variable {X : Cx}
/-- the heap with the new tuples -/
def layT (H : Hp) : List Addr → List (V × V) → Hp
  | T :: Ts, p :: ps => upd (layT H Ts ps) T (.tup [p.1, p.2])
  | _, _ => H
def tListZip (K : Fg) (t : TA) : TE := fun σ H Q => t σ H fun vs H1 => ∃ a b xs ys, vs = [.ref a, .ref b] ∧ SqL K H1 a xs ∧ SqL K H1 b ys ∧ xs.length = ys.length ∧
  ∀ p Ts, H1 p = none → (∀ T ∈ Ts, H1 T = none ∧ T ≠ p) → Ts.Nodup → Ts.length = xs.length → Q (.ref p) (upd (layT H1 Ts (xs.zip ys)) p (.lst (Ts.map .ref)))
theorem layT_old {H : Hp} : ∀ {Ts : List Addr} {ps : List (V × V)} {b : Addr}, b ∉ Ts → layT H Ts ps b = H b
  | [], _, _, _ => by simp [layT]
  | T :: Ts, [], _, _ => by simp [layT]
  | T :: Ts, p :: ps, b, h => by
    simp only [layT]
    rw [upd_ne (fun e => h (by rw [e]; exact List.mem_cons_self))]
    exact layT_old fun z => h (List.mem_cons_of_mem _ z)
theorem layT_get {H : Hp} : ∀ {Ts : List Addr} {ps : List (V × V)} {j : Nat} {T : Addr} {p : V × V}, Ts.Nodup → Ts[j]? = some T → ps[j]? = some p → layT H Ts ps T = some (.tup [p.1, p.2])
  | [], _, _, _, _, _, e, _ => by simp at e
  | T :: Ts, [], _, _, _, _, _, e => by simp at e
  | T :: Ts, p :: ps, 0, _, _, _, e1, e2 => by
    simp at e1 e2
    subst e1; subst e2
    simp only [layT, upd_same]
  | T :: Ts, p :: ps, j + 1, T', p', nd, e1, e2 => by
    have nd' := List.nodup_cons.mp nd
    have m : T' ∈ Ts := List.mem_of_getElem? (show Ts[j]? = some T' by simpa using e1)
    simp only [layT]
    rw [upd_ne (fun e => nd'.1 (by rw [← e]; exact m))]
    exact layT_get nd'.2 (by simpa using e1) (by simpa using e2)
theorem vals_get : ∀ {vs : List V} {us : List Value} {j : Nat} {u : Value}, Vals vs us → us[j]? = some u → ∃ v, vs[j]? = some v ∧ RelV v u
  | _, _, _, _, .nil, e => by simp at e
  | _, _, 0, _, .cons r _, e => by simp at e; subst e; exact ⟨_, rfl, r⟩
  | _, _, j + 1, _, .cons _ t, e => by
    obtain ⟨v, h1, h2⟩ := vals_get (j := j) t (by simpa using e)
    exact ⟨v, by simpa using h1, h2⟩
theorem vals_refs : ∀ Ts : List Addr, Vals (Ts.map V.ref) (Ts.map Value.ref)
  | [] => .nil
  | T :: Ts => .cons rfl (vals_refs Ts)
theorem pe_listzip {e e2 : Expr} {ta : TA} {p p' pos pos' : Pos} (hcalm : X.calm = true) (hg : Gl X "zip") (hm : X.mg "zip" = none) (hg' : Gl X "list") (hm' : X.mg "list" = none) (ha : PA X [e, e2] ta)
    (hs : starEach [e, e2] X.env = (false, eval e X.env) :: starEach [e2] X.env := by rfl) (hpl : (backTo pos (starEach [e2] X.env)).any (·.1) = false := by rfl)
    (hs' : starEach [Expr.Call (.Name "zip" p) [e, e2] [] pos] X.env = (false, eval (.Call (.Name "zip" p) [e, e2] [] pos) X.env) :: starEach [] X.env := by rfl) (hpl' : (backTo pos' (starEach [] X.env)).any (·.1) = false := by rfl) :
    PE X (.Call (.Name "list" p') [.Call (.Name "zip" p) [e, e2] [] pos] [] pos') (tListZip X.K ta) := by
  refine ⟨fun pins s σ H Q I h => ?_⟩
  refine wpAny_Call_Name_kw (ld_blt I hg' hm' PyProof.Rows.boot_list ?_ (by decide) (by decide))
  refine PyProof.Rows.callWith_type1 ?_ hs' hpl'
  rw [hs']
  show wpAny _ _ (spliced ((false, eval (.Call (.Name "zip" p) [e, e2] [] pos) X.env) :: backTo pos' (starEach [] X.env))) _ _ s
  refine Calls.spliced_cons ?_
  refine wpAny_Call_Name_kw (ld_blt I hg hm PyProof.Rows.boot_zip ?_ (by decide) (by decide))
  refine PyProof.Rows.callWith_type1 (thn (ha.run pos pins s σ H _ I h) fun us s1 ⟨vs, H1, I1, r1, q1⟩ => ?_) hs hpl
  obtain ⟨a, b, xs, ys, ex, hqx, hqy, hlen, q⟩ := q1
  subst ex
  cases r1 with
  | cons r rr =>
  cases rr with
  | cons r' rr =>
  cases rr
  cases r
  cases r'
  obtain ⟨its, rv, p1, hz1⟩ := I1.list hqx
  obtain ⟨its2, rv2, p2, hz2⟩ := I1.list hqy
  refine call_zip_2 p1.isList p2.isList fun h' hz hTI hTO h1 h2 hsz hk => ?_
  refine Calls.spliced_nil ?_
  show wpAny _ _ (call (.type "list") [.ref (s1.heap.objs.size + 4)]) _ _ _
  have hlen2 : its.length = its2.length := by rw [← rv.length, ← rv2.length]; exact hlen
  refine call_list_zip (s := { s1 with heap := h' }) (xs := its.toArray) (ys := its2.toArray) (I1.ok.hd hcalm) (PySem.W.ktu_apart s1.heap.objs.size a b p1.lt p2.lt) (by simpa using hlen2) (by rw [List.size_toArray, ← rv.length]; exact hz1) hz hTI hTO h1 h2 (p1.isList.at fun o e => hk _ _ e) (p2.isList.at fun o e => hk _ _ e) fun h2' Ts c' kp hTl hM hS => ?_
  have hsz' : h'.objs.size = s1.heap.objs.size + 5 := hsz
  have kp' : ∀ b o, s1.heap.get? b = some o → h2'.get? b = some o := fun b o e => by
    have h0 := Heap.lt_size e
    exact kp b o (ne_le h0 (Nat.le_add_right _ 4)) (ne_le h0 (Nat.le_add_right _ 3)) (Nat.ne_of_lt h0) (ne_le h0 (Nat.le_add_right _ 1)) (hk b o e)
  have fresh : ∀ b, s1.heap.objs.size ≤ b → H1 b = none := fun b hb => I1.hok.fresh hb
  have geT : ∀ T ∈ Ts, s1.heap.objs.size + 6 ≤ T := fun T hT => by have := hM.1 T hT; rw [show ({ s1 with heap := h' } : Shared).heap.objs.size = s1.heap.objs.size + 5 from hsz] at this; exact this
  have hp1 : s1.heap.objs.size ≤ h'.objs.size := by omega
  have hp0 : H1 h'.objs.size = none := fresh _ hp1
  have nT : h'.objs.size ∉ Ts := fun z => by have := geT _ z; rw [hsz'] at this; exact absurd this (Nat.not_succ_le_self _)
  have ltH : ∀ {b u}, H1 b = some u → b < s1.heap.objs.size := fun {b u} e => by
    rcases Nat.lt_or_ge b s1.heap.objs.size with hb | hb
    · exact hb
    · rw [fresh b hb] at e; cases e
  have lenT : Ts.length = xs.length := by rw [hTl, List.size_toArray, rv.length]
  have old : ∀ b, b < s1.heap.objs.size → upd (layT H1 Ts (xs.zip ys)) h'.objs.size (.lst (Ts.map .ref)) b = H1 b := fun b hb => by
    rw [upd_ne (ne_le hb hp1)]
    exact layT_old fun z => absurd (Nat.lt_of_lt_of_le hb (Nat.le_trans (Nat.le_add_right _ 6) (geT b z))) (Nat.lt_irrefl _)
  have I2 : Inv X pins σ (upd (layT H1 Ts (xs.zip ys)) h'.objs.size (.lst (Ts.map .ref))) { s1 with heap := h2', toks := s1.toks } := by
    refine I1.un ⟨fun b o e _ _ _ => kp' b o e, fun b o e _ _ _ => ⟨o.slots, kp' b o e⟩, fun b o e n _ => ?_, fun b o e _ => ⟨o, kp' b o e⟩, fun b xs e => ?_, fun b o u e => ?_, fun b ps e => ⟨#[], ?_⟩⟩ fun b u e => ?_
    · rw [old b (Heap.lt_size e)]; exact n
    · rw [old b (ltH e)]; exact e
    · rw [old b (ltH e)]; exact e
    · rw [old b (ltH e), e]; simp
    · by_cases hb : b = h'.objs.size
      · subst hb
        rw [upd_same] at e
        cases e
        exact ⟨by rw [List.length_map, lenT]; exact hz1, _, c', vals_refs Ts, hS⟩
      · rw [upd_ne hb] at e
        by_cases hT : b ∈ Ts
        · obtain ⟨j, hj, ej⟩ := List.getElem_of_mem hT
          have ej' : Ts[j]? = some b := by rw [List.getElem?_eq_getElem hj, ej]
          obtain ⟨x, y, e1, e2, e3⟩ := hM.2.2 j b ej'
          obtain ⟨vx, g1, r1⟩ := vals_get rv (show its[j]? = some x by simpa using e1)
          obtain ⟨vy, g2, r2⟩ := vals_get rv2 (show its2[j]? = some y by simpa using e2)
          have gz : (xs.zip ys)[j]? = some (vx, vy) := by
            rw [List.getElem?_zip_eq_some]
            exact ⟨g1, g2⟩
          rw [layT_get hM.2.1 ej' gz] at e
          cases e
          exact ⟨by show 2 ≤ sizeLine; rw [sizeLine_eq]; omega, [x, y], .cons r1 (.cons r2 .nil), ⟨_, e3, rfl, _, rfl⟩⟩
        · rw [layT_old hT] at e
          have hb' := ltH e
          exact (I1.hok b u e).stay (fun c v _ w => kp' c v w) (fun c w => by rw [old c (ltH w)]; exact w) fun c xs w => by rw [old c (ltH w)]; exact w
  exact ⟨.ref h'.objs.size, _, I2, rfl, q _ Ts hp0 (fun T hT => ⟨fresh T (Nat.le_trans (Nat.le_add_right _ 6) (geT T hT)), fun z => nT (z ▸ hT)⟩) hM.2.1 lenT⟩
end
end VL

end

section
set_option Elab.async false
set_option linter.all false
set_option maxRecDepth 100000
/-! list * int, insert, place[i] op= e, list(zip(a, b)), sorted of data -/
namespace VL
open PySem PySem.Spec PyProof.Rows L2
section
variable {X : Cx} {T T1 T2 T3 T4 T5 : List Nat} {W : WV} {K : Fg}
theorem vg_tupK {es : List Expr} {k n : Nat} {vs : List Nat} {gs : TGs} {Gs : MGs} {tpos : Pos} (hc : X.calm = true) (h : VGs X es gs vs Gs) (hK : X.K = K := by rfl) (hn : (assignEach es X.env).length = n := by rfl) (hst : (assignEach es X.env).findIdx? (·.1) = none := by rfl) : VG X (.Tuple es k tpos) (gTup K n gs) vs (gT n Gs) :=
  hK ▸ vg_tup hc h hn hst
/-! ### list * int -/
def rRepR : R2 := fun x y H Q => ∃ l k xs, x = .ref l ∧ y = .int k ∧ Rd H l (.lst xs) ∧ -(2 ^ 63) ≤ k ∧ k < 2 ^ 63 ∧ xs.length * k.toNat ≤ sizeLine ∧
  ∀ p, H p = none → Q (.ref p) (upd H p (.lst (List.replicate k.toNat xs).flatten))
theorem op_repR : OpR X (binaryOp .Mult) rRepR := by
  intro pins s σ H x y v u Q I rx ry h
  obtain ⟨l, k, xs, rfl, rfl, hH, h1, h2, hz, q⟩ := h
  cases rx
  obtain ⟨t, rfl⟩ := ry
  obtain ⟨z, its, n, r, hl, e⟩ := lstR I hH
  have hlen : its.toArray.size * k.toNat ≤ sizeLine := by rw [List.size_toArray, ← hl]; exact hz
  have hcap : ¬ its.toArray.size * k.toNat > (2 ^ 63 - 1) / 8 := by
    have : (sizeLine : Nat) ≤ (2 ^ 63 - 1) / 8 := by decide
    omega
  have hfit : ¬ (!Builtin.List.listFitsIndex k) = true := by
    rw [fitsIndex_both h1 h2]
    exact Bool.false_ne_true
  have hlong : ¬ Builtin.List.listTooLong (its.toArray.size * k.toNat) = true := by
    rw [notLongL hlen]
    exact Bool.false_ne_true
  have hnew : List.foldl (fun x1 x2 => x1 ++ x2) #[] (List.replicate (if its.toArray.isEmpty = true then 0 else k.toNat) its.toArray) = (List.replicate k.toNat its).flatten.toArray := by
    have f0 : ∀ m : Nat, List.foldl (fun x1 x2 => x1 ++ x2) #[] (List.replicate m its.toArray) = (List.replicate m its).flatten.toArray := fun m => by
      have := foldl_rep its m []
      rw [List.nil_append] at this
      exact this
    rw [f0]
    cases its with
    | nil => simp
    | cons a r' => rw [if_neg (by simp)]
  refine wpAny_binaryOp_repeat_ref (T := "list") (U := "int") (by decide) ⟨_, e, rfl⟩ (fun s' => typeIs_int s' k t) noFill_list_mul F.fills_int_mul F.slot_int_rmul repeat_list F.slot_int_index.lookup
    (call_meets F.slot_int_rmul (typeIs_int s k t) F.entry_int_rmul (F.args_int_rmul_2 _ _) (int___rmul___int_list k t l its.toArray n)
      ⟨e, rfl, ⟨_, e, rfl⟩, call_meets F.slot_list_mul ⟨_, e, rfl⟩ F.entry_list_mul (F.args_list_mul_2 _ _) (AutoListH.list___mul___list_int_3 l its.toArray n k t hfit hcap hlong) ⟨e, ?_⟩⟩)
  rw [hnew]
  exact ⟨.ref _, _, I.lnew (t' := s.toks) (r.rep k.toNat) (by rw [PyProof.Rows.lm_len_rep_flat, Nat.mul_comm]; exact hz), rfl, q _ I.fresh⟩
def repL (ds : List PyData) (k : Int) : List PyData := (List.replicate k.toNat ds).flatten
def repOk (ds : List PyData) (k : Int) : Bool := decide (-(2 ^ 63) ≤ k ∧ k < 2 ^ 63) && small (ds.length * k.toNat)
def repD : PyData → PyData → Option PyData
  | .list ds, .int k => if repOk ds k then some (.list (repL ds k)) else none
  | _, _ => none
theorem ok_repD : OpOk K rRepR repD := by
  intro F H x y dx dy z Q s hx hy e k
  unfold repD at e
  split at e
  · rename_i ds n
    split at e
    · rename_i hz
      cases e
      unfold repOk at hz
      rw [Bool.and_eq_true] at hz
      have hk := of_decide_eq_true hz.1
      obtain ⟨a, vs, rfl, h1, h2⟩ := hx.list s
      cases hy.int
      refine ⟨a, n, vs, rfl, rfl, h1, hk.1, hk.2, by rw [dqAll_len h2]; exact small_iff.mp hz.2, fun p np => ?_⟩
      exact k _ _ _ (.new _ s np) (.lst (.inl upd_same) (dqAll_mono (same_upd (s.free np)) _ _ (rep_all h2 n.toNat)))
    · cases e
  · cases e
variable {fa fb : M Rv} {a b : Expr} {pos : Pos}
theorem ve_rep (ha : VE X T1 W a fa) (hb : VE X T2 W b fb) : VE X (T1 ++ T2) W (.BinOp a .Mult b pos) (cBin repD fa fb) := ve_bin op_repR ok_repD ha hb
/-- .. as a new tree -/
def rep1 (x y : Rv) : M Tr := fun ρ => match derS ρ x, derS ρ y with
  | some (.list ds), some (.int k) => if repOk ds k then some (.ok (.lst ((repL ds k).map .dat)) ρ) else none
  | _, _ => none
def nRep (fa fb : M Rv) : M Tr := bnd fa fun x => bnd fb fun y => rep1 x y
theorem vn_rep (ha : VE X T1 W a fa) (hb : VE X T2 W b fb) : VN X (T1 ++ T2) W (.BinOp a .Mult b pos) (nRep fa fb) :=
  pe_imp (pe_op op_repR ha hb) fun σ H Q ⟨F, ρ, fp, o, E, e, P⟩ => by
    refine tv_bnd E e P (fun i hi => List.mem_append_left _ hi) fun x ρ1 v H1 F1 fp1 s1 r1 e1 P1 => ?_
    refine tv_bnd s1.env e1 P1 (fun i hi => List.mem_append_right _ hi) fun y ρ2 w H2 F2 fp2 s2 r2 e2 P2 => ?_
    unfold rep1 at e2
    split at e2
    · rename_i ds k hd hk
      split at e2
      · rename_i hz
        cases ok_inj e2
        unfold repOk at hz
        rw [Bool.and_eq_true] at hz
        have hk' := of_decide_eq_true hz.1
        obtain ⟨a, vs, rfl, h1, h2⟩ := (derS_ok s2.env (RvOk.step s2 r1) hd).list s2.env.sub
        cases (derS_ok s2.env r2 hk).int
        refine ⟨a, k, vs, rfl, rfl, h1, hk'.1, hk'.2, by rw [dqAll_len h2]; exact small_iff.mp hz.2, fun p np => ?_⟩
        have z := new_lst (T := T1 ++ T2) s2.env np (rep_all h2 k.toNat)
        exact P2 _ _ _ fp2 z.1 ⟨_, z.2⟩
      · cases e2
    · cases e2
/-! ### the list at a place becomes another list of data -/
theorem mut_dat {K : Fg} {T : List Nat} {F0 H0 F H : Hp} {σ : Sg} {ρ0 ρ : Rho} {fp0 fp : FP} {r : Nat × List Nat} {v : V} {ts : List Tr} {ds : List PyData} (s1 : EStep K T F0 H0 σ ρ0 fp0 F H ρ fp) (hm : modeOk ρ r.1 = true)
    (pl : ∃ u m t t', sg σ r.1 = some u ∧ ρ[r.1]? = some (Sl.own m t) ∧ t.at r.2 = some t' ∧ pathV H u r.2 = some v) (ht : treeAt ρ r = some (.lst ts)) (hf : flat ts = some ds) :
    ∃ a vs, v = .ref a ∧ H a = some (.lst vs) ∧ DqAll K F vs ds ∧ ∀ vs' ds', DqAll K F vs' ds' → ∃ fp', EStep K (T ++ [r.1]) F0 H0 σ ρ0 fp0 F (upd H a (.lst vs')) (putAt ρ r (.lst (ds'.map .dat))) fp' := by
  obtain ⟨B, qB, hB⟩ := place_get s1.env pl ht
  obtain ⟨u, m, t, t', h1, h2, h3, h4⟩ := pl
  have ht' : t.at r.2 = some (.lst ts) := by
    unfold treeAt at ht
    rw [h2] at ht
    exact ht
  have ets := flat_ok hf
  subst ets
  cases qB with
  | @lst a vs _ B0 e1 e2 e3 =>
    obtain ⟨eB, hd⟩ := trs_dat' e3
    refine ⟨a, vs, rfl, e1, hd, fun vs' ds' hd' => ?_⟩
    obtain ⟨fp', st, _⟩ := mut_step (A := []) (o := .lst vs') (t'' := .lst (ds'.map .dat)) s1 h2 (mode_of hm h2) h1 ht' h4 (fun b hb => nomatch hb) List.nodup_nil (fun b hb => nomatch hb) fun B1 q1 nB1 dj => by
      cases q1 with
      | @lst a _ _ B2 f1 f2 f3 =>
        exact ⟨List.mem_cons_self, [a], .lst upd_same f2 (trs_dat hd'), by simp, fun b hb => .inl (by rw [List.mem_singleton.mp hb]; exact List.mem_cons_self)⟩
    refine ⟨fp', ?_⟩
    have e : putAt ρ r (.lst (ds'.map .dat)) = ρ.set r.1 (.own m (t.put r.2 (.lst (ds'.map .dat)))) := by
      unfold putAt
      rw [h2]
    rw [e]
    exact st
/-! ### place.insert(i, e): a list of data -/
def insL (ds : List PyData) (i : Int) (d : PyData) : List PyData := ds.take i.toNat ++ [d] ++ ds.drop i.toNat
def ins1 (T2 : List Nat) (r : Nat × List Nat) (rs : List Rv) : MS := fun ρ => if T2.contains r.1 || !modeOk ρ r.1 then none else match treeAt ρ r, rs with
  | some (.lst ts), [.d (.int i), .d d] => (match flat ts with
    | some ds => if small (ds.length + 1) && decide (0 ≤ i ∧ i < 2 ^ 63) then some (.nx (putAt ρ r (.lst ((insL ds i d).map .dat)))) else none
    | none => none)
  | _, _ => none
def sIns (T2 : List Nat) (f : M (Nat × List Nat)) (g : M (List Rv)) : MS := sE f fun r => fun ρ => if isLst (treeAt ρ r) then sE g (ins1 T2 r) ρ else none
variable {fp1 : M (Nat × List Nat)} {fs : M (List Rv)} {o i e : Expr} {apos cpos : Pos}
theorem vs_ins (ho : VP X T1 W o fp1) (hn : VA X T2 W [i, e] fs) (hT : T2 = T3 := by rfl) (hbase : attributeBase o "insert" X.env (eval o X.env) = eval o X.env := by rfl)
    (hfew : ((backTo cpos (starEach [i, e] X.env)).all (fun x => !x.1) && (backToKw cpos (keywordEach [] X.env)).all (fun x => x.1.isSome)
      && decide (([i, e] : List Expr).length + ([] : List Keyword).length + (if ([] : List Keyword).isEmpty then 0 else 1) < 30)) = true := by rfl)
    (hline : (apos.endLine == cpos.line) = true := by rfl) (hst : starEach [i, e] X.env = (false, eval i X.env) :: starEach [e] X.env := by rfl) (hplain : (backTo cpos (starEach [e] X.env)).any (·.1) = false := by rfl)
    (hs : swapsWith (.Call (.Attribute o "insert" apos) [i, e] [] cpos) none pos.line X.env = pure false := by rfl) :
    VS X W (.Expr (.Call (.Attribute o "insert" apos) [i, e] [] cpos) pos) (sIns T3 fp1 fs) :=
  ps_imp (ps_expr (pe_bm PySem.F.plainAttrs_list PySem.F.slot_list_insert PySem.F.type_list_insert mt_insert ho hn hbase hfew hline hst hplain) hs) fun D σ H ⟨F, ρ, fp, ou, E, q, P⟩ => by
    subst hT
    refine tv_st E q P fun r ρ1 v H1 F1 fp1 s1 r1 e1 P1 => ?_
    split at e1
    · rename_i hl
      refine ⟨place_list s1.env r1 hl, ?_⟩
      refine tv_st (T := T2) s1.env e1 P1 fun rs ρ2 ws H2 F2 fp2 s2 r2 e2 _ => ?_
      unfold ins1 at e2
      split at e2
      · cases e2
      · rename_i hc
        obtain ⟨hT, hc'⟩ := touch_of hc
        have pl := place_step s1.env s2 hT r1
        split at e2
        · rename_i ts n d hts
          split at e2
          · rename_i ds hfl
            split at e2
            · rename_i hz
              rw [Bool.and_eq_true] at hz
              have hi := of_decide_eq_true hz.2
              cases (Option.some.inj e2)
              cases r2 with
              | cons ra rb =>
                cases rb with
                | @cons w _ _ _ rb rc =>
                  cases rc
                  cases ra
                  obtain ⟨a, vs, rfl, ha, hd, st⟩ := mut_dat s2 hc' pl hts hfl
                  have rb : Dq X.K F2 w d := rb
                  obtain ⟨fp', st⟩ := st (vs.take n.toNat ++ [w] ++ vs.drop n.toNat) (insL ds n d) (dqAll_app (dqAll_app (dqAll_take _ hd) (.cons rb .nil)) (dqAll_drop _ hd))
                  have := small_iff.mp hz.1
                  refine ⟨a, vs, n, w, rfl, rfl, ha, by rw [dqAll_len hd]; omega, hi.1, hi.2, P1 σ _ F2 fp' st.st⟩
            · cases e2
          · cases e2
        · cases e2
    · cases e1
/-! ### place[i] op= e: a list of ints -/
def rGetL : V → V → Hp → VK → Prop := fun x y H Q => ∃ p xs i v, x = .ref p ∧ y = .int i ∧ H p = some (.lst xs) ∧ 0 ≤ i ∧ xs[i.toNat]? = some v ∧ Q v H
theorem get_list : PGet X rGetL := by
  intro pins s σ H x y v u Q I rx ry h
  obtain ⟨p, xs, i, z, rfl, rfl, hq, h0, he, q⟩ := h
  cases rx
  obtain ⟨t, rfl⟩ := ry
  obtain ⟨its, r, pl, hz⟩ := I.list (.inl (.inl hq) : SqL X.K H p xs)
  obtain ⟨w, ew, rw'⟩ := r.get he
  have hl := (List.getElem?_eq_some_iff.mp he).1
  have hn := line63
  exact wpAny_getItem_list pl.isList h0 (by omega) (by simpa using ew) ⟨z, H, I, rw', q⟩
def aug2 (T2 : List Nat) (f : Int → Int → Int) (r : Nat × List Nat) (n : Int) (ds : List PyData) (j : Int) (y : Rv) : MS := fun ρ => if T2.contains r.1 || !modeOk ρ r.1 then none else match y with
  | .d (.int k) => some (.nx (putAt ρ r (.lst ((ds.set n.toNat (.int (f j k))).map .dat))))
  | _ => none
def aug1 (T2 T3 : List Nat) (f : Int → Int → Int) (r : Nat × List Nat) (fe : M Rv) (y : Rv) : MS := fun ρ => if T2.contains r.1 then none else match y, treeAt ρ r with
  | .d (.int n), some (.lst ts) => (match flat ts with
    | some ds => if 0 ≤ n then (match ds[n.toNat]? with
      | some (.int j) => sE fe (aug2 T3 f r n ds j) ρ
      | _ => none) else none
    | none => none)
  | _, _ => none
def sAugIx (T2 T3 : List Nat) (f : Int → Int → Int) (fo : M (Nat × List Nat)) (fi fe : M Rv) : MS := sE fo fun r => sE fi (aug1 T2 T3 f r fe)
variable {tpos : Pos} {fi fe : M Rv}
theorem dqAll_set {F : Hp} {v : V} {d : PyData} (h : Dq K F v d) : ∀ {vs : List V} {ds : List PyData} {j : Nat}, DqAll K F vs ds → DqAll K F (vs.set j v) (ds.set j d)
  | _, _, _, .nil => .nil
  | _, _, 0, .cons _ t => .cons h t
  | _, _, j + 1, .cons r t => .cons r (dqAll_set h t)
theorem vs_augIx {op : Operator} {f : Int → Int → Int} (ho : VP X T1 W o fp1) (hi : VE X T2 W i fi) (he : VE X T3 W e fe) (hp : PIp X op (ipI f)) (hT : T2 = T4 := by rfl) (hT' : T3 = T5 := by rfl)
    (ha : ∀ ov iv new, augStore i ov iv new = (do holding [new, ov, iv] (setItem ov iv new); release [new, ov, iv] []; pure .next) := by intros; rfl) :
    VS X W (.AugAssign (.Subscript o i tpos) op e pos) (sAugIx T4 T5 f fp1 fi fe) :=
  ps_imp (ps_augS ho hi get_list he hp set_list ha) fun D σ H ⟨F, ρ, fp, ou, E, q, P⟩ => by
    subst hT; subst hT'
    refine tv_st E q P fun r ρ1 v H1 F1 fp1 s1 r1 e1 P1 => ?_
    refine tv_st (T := T2) s1.env e1 P1 fun y ρ2 w H2 F2 fp2 s2 r2 e2 P2 => ?_
    unfold aug1 at e2
    split at e2
    · cases e2
    · rename_i hc
      have pl := place_step s1.env s2 (not_in hc) r1
      split at e2
      · rename_i n ts hts
        split at e2
        · rename_i ds hfl
          split at e2
          · rename_i h0
            split at e2
            · rename_i j hj
              cases r2
              obtain ⟨B, qB, hB⟩ := place_get s2.env pl hts
              have ets := flat_ok hfl
              subst ets
              cases qB with
              | @lst a vs _ B0 f1 f2 f3 =>
                obtain ⟨_, hd⟩ := trs_dat' f3
                obtain ⟨vj, gj, dj⟩ := dqAll_get hd hj
                cases dj
                refine ⟨a, vs, n, .int j, rfl, rfl, f1, h0, gj, ?_⟩
                refine tv_st (T := T3) s2.env e2 P2 fun z ρ3 u H3 F3 fp3 s3 r3 e3 P3 => ?_
                unfold aug2 at e3
                split at e3
                · cases e3
                · rename_i hc3
                  obtain ⟨hT3, hc'⟩ := touch_of hc3
                  have pl3 := place_step s2.env s3 hT3 pl
                  split at e3
                  · rename_i k
                    cases (Option.some.inj e3)
                    cases r3
                    refine ⟨j, k, rfl, rfl, ?_⟩
                    have hts3 : treeAt ρ3 r = some (.lst (ds.map .dat)) := by
                      have hu := (s3.un r.1 hT3).1
                      unfold treeAt at hts ⊢
                      rw [hu]; exact hts
                    obtain ⟨a', vs', ea, ha', hd', st⟩ := mut_dat s3 hc' pl3 hts3 hfl
                    cases ea
                    have hjl : n.toNat < ds.length := (List.getElem?_eq_some_iff.mp hj).1
                    have hln := dqAll_len hd'
                    obtain ⟨fp', st⟩ := st (vs'.set n.toNat (.int (f j k))) (ds.set n.toNat (.int (f j k))) (dqAll_set (.int _) hd')
                    refine ⟨a, vs', n, n.toNat, rfl, rfl, ha', ?_, P2 σ _ F3 fp' st.st⟩
                    unfold ixN
                    rw [if_pos h0, if_pos (by omega)]
                  · cases e3
            · cases e2
          · cases e2
        · cases e2
      · cases e2
/-! ### list(zip(a, b)) -/
def zipP (ds es : List PyData) : List PyData := (ds.zip es).map fun p => .tuple [p.1, p.2]
def lzip1 (rs : List Rv) : M Rv := fun ρ => match rs with
  | [x, y] => (match derS ρ x, derS ρ y with
    | some (.list ds), some (.list es) => if ds.length = es.length then some (.ok (.d (.list (zipP ds es))) ρ) else none
    | _, _ => none)
  | _ => none
def cListZip (fs : M (List Rv)) : M Rv := bnd fs lzip1
theorem lay_dq {F F' : Hp} (sF : Same F F') : ∀ {Ts : List Addr} {vs ws : List V} {ds es : List PyData}, DqAll K F vs ds → DqAll K F ws es → Ts.length = vs.length → vs.length = ws.length →
    (∀ (j : Nat) (T : Addr) (p : V × V), Ts[j]? = some T → (vs.zip ws)[j]? = some p → F' T = some (.tup [p.1, p.2])) → DqAll K F' (Ts.map .ref) (zipP ds es)
  | [], [], [], _, _, .nil, .nil, _, _, _ => .nil
  | [], _ :: _, _, _, _, _, _, h, _, _ => by simp at h
  | _ :: _, [], _, _, _, _, _, h, _, _ => by simp at h
  | [], [], _ :: _, _, _, _, _, _, h, _ => by simp at h
  | _ :: _, _ :: _, [], _, _, _, _, _, h, _ => by simp at h
  | T :: Ts, v :: vs, w :: ws, _, _, .cons h1 t1, .cons h2 t2, e1, e2, g => by
    refine .cons (.tup (g 0 T (v, w) rfl rfl) (.cons (dq_mono sF _ _ h1) (.cons (dq_mono sF _ _ h2) .nil))) ?_
    exact lay_dq sF t1 t2 (by simpa using e1) (by simpa using e2) fun j T p a b => g (j + 1) T p (by simpa using a) (by simpa using b)
theorem layT_same {H : Hp} {Ts : List Addr} {ps : List (V × V)} (hn : ∀ T ∈ Ts, H T = none) : Same H (layT H Ts ps) := fun b u e => by
  rw [layT_old fun z => by rw [hn b z] at e; cases e]
  exact e
theorem layT_some {H : Hp} : ∀ {Ts : List Addr} {ps : List (V × V)} {b : Addr} {u : HO}, layT H Ts ps b = some u → b ∈ Ts ∨ H b = some u
  | [], _, _, _, e => by simp only [layT] at e; exact .inr e
  | T :: Ts, [], _, _, e => by simp only [layT] at e; exact .inr e
  | T :: Ts, p :: ps, b, u, e => by
    simp only [layT] at e
    by_cases hb : b = T
    · exact .inl (by rw [hb]; exact List.mem_cons_self)
    · rw [upd_ne hb] at e
      exact (layT_some e).imp_left (List.mem_cons_of_mem _)
theorem layT_le {F H : Hp} (s : Same F H) : ∀ {Ts : List Addr} {ps : List (V × V)}, Same (layT F Ts ps) (layT H Ts ps)
  | [], _ => by simp only [layT]; exact s
  | T :: Ts, [] => by simp only [layT]; exact s
  | T :: Ts, p :: ps => by simp only [layT]; exact same_upd2 (layT_le s)
variable {e2 : Expr} {p p' pos' : Pos}
theorem ve_listzip (hcalm : X.calm = true) (hg : Gl X "zip") (hm : X.mg "zip" = none) (hg' : Gl X "list") (hm' : X.mg "list" = none) (ha : VA X T W [e, e2] fs)
    (hs : starEach [e, e2] X.env = (false, eval e X.env) :: starEach [e2] X.env := by rfl) (hpl : (backTo pos (starEach [e2] X.env)).any (·.1) = false := by rfl)
    (hs' : starEach [Expr.Call (.Name "zip" p) [e, e2] [] pos] X.env = (false, eval (.Call (.Name "zip" p) [e, e2] [] pos) X.env) :: starEach [] X.env := by rfl) (hpl' : (backTo pos' (starEach [] X.env)).any (·.1) = false := by rfl) :
    VE X T W (.Call (.Name "list" p') [.Call (.Name "zip" p) [e, e2] [] pos] [] pos') (cListZip fs) :=
  pe_imp (pe_listzip hcalm hg hm hg' hm' ha hs hpl hs' hpl') fun σ H Q ⟨F, ρ, fp, o, E, q, P⟩ => by
    refine tv_bnd E q P (fun i hi => hi) fun rs ρ1 vs H1 F1 fp1 s1 r1 e1 P1 => ?_
    unfold lzip1 at e1
    split at e1
    · rename_i x y
      split at e1
      · rename_i ds es hx hy
        split at e1
        · rename_i hl
          cases ok_inj e1
          cases r1 with
          | cons ra rb =>
            cases rb with
            | cons rb rc =>
              cases rc
              obtain ⟨a, xs, rfl, h1, h2⟩ := (derS_ok s1.env ra hx).list s1.env.sub
              obtain ⟨b, ys, rfl, h3, h4⟩ := (derS_ok s1.env rb hy).list s1.env.sub
              have hln : xs.length = ys.length := by rw [dqAll_len h2, dqAll_len h4]; exact hl
              refine ⟨a, b, xs, ys, rfl, .inl h1, .inl h3, hln, fun p Ts np nT nd lT => ?_⟩
              have sub := s1.env.sub
              have nTF : ∀ T ∈ Ts, F1 T = none := fun T hT => sub.free (nT T hT).1
              have pT : p ∉ Ts := fun z => (nT p z).2 rfl
              have npF : layT F1 Ts (xs.zip ys) p = none := by rw [layT_old pT]; exact sub.free np
              have npH : layT H1 Ts (xs.zip ys) p = none := by rw [layT_old pT]; exact np
              have sF : Same F1 (upd (layT F1 Ts (xs.zip ys)) p (.lst (Ts.map .ref))) := (layT_same nTF).trans (same_upd npF)
              have gr : Grow F1 H1 (upd (layT F1 Ts (xs.zip ys)) p (.lst (Ts.map .ref))) (upd (layT H1 Ts (xs.zip ys)) p (.lst (Ts.map .ref))) := by
                refine ⟨(layT_same fun T hT => (nT T hT).1).trans (same_upd npH), sF, same_upd2 (layT_le sub), fun b hb hb' => ?_⟩
                by_cases hbp : b = p
                · rw [hbp]; exact np
                · rw [upd_ne hbp] at hb'
                  by_cases hbT : b ∈ Ts
                  · exact (nT b hbT).1
                  · rw [layT_old hbT] at hb'
                    exact absurd hb hb'
              refine P1 _ _ _ fp1 (gr.step s1.env) (.lst (.inl upd_same) (lay_dq sF h2 h4 lT hln fun j T p' hj hp' => ?_))
              have mT : T ∈ Ts := List.mem_of_getElem? hj
              rw [upd_ne (fun z => pT (by rw [← z]; exact mT))]
              exact layT_get nd hj hp'
        · cases e1
      · cases e1
    · cases e1
/-! ### sorted(xs) -/
def tupled : PyData → Bool
  | .tuple (_ :: _) => true
  | _ => false
def untupled : PyData → Bool
  | .tuple _ => false
  | .none => false
  | _ => true
def sortOk (ds : List PyData) : Bool := ds.all (fun d => ds.all (fun e => PySem.W.alike d e)) && (ds.all tupled || ds.all untupled) && ds.all (fun d => decide (d.depth ≤ 60)) && ds.all PyData.canLay0
def sortL (ds : List PyData) : List PyData := ds.mergeSort (PySem.W.dataLe false id)
def sortedD : List PyData → Option PyData
  | [.list ds] => if sortOk ds then some (.list (sortL ds)) else none
  | _ => none
theorem dqAll_zip {F : Hp} : ∀ {vs : List V} {ds : List PyData}, DqAll K F vs ds → ∀ b ∈ vs.zip ds, Dq K F b.1 b.2
  | _, _, .nil, b, h => by simp at h
  | _, _, .cons h t, b, hb => by
    rcases List.mem_cons.mp (show b ∈ (_, _) :: _ from hb) with e | hb
    · subst e; exact h
    · exact dqAll_zip t b hb
theorem dqAll_of {F : Hp} : ∀ {bs : List (V × PyData)}, (∀ b ∈ bs, Dq K F b.1 b.2) → DqAll K F (bs.map (·.1)) (bs.map (·.2))
  | [], _ => .nil
  | b :: bs, h => .cons (h b List.mem_cons_self) (dqAll_of fun c hc => h c (List.mem_cons_of_mem _ hc))
theorem ok_sortedD : CallOk K (rSortD K) sortedD := by
  intro F H vs ds z Q s h e k
  unfold sortedD at e
  split at e
  · cases h with
    | cons h t =>
      cases t
      split at e
      · rename_i ds _ hz
        cases e
        obtain ⟨a, us, rfl, h1, h2⟩ := h.list s
        have hl := dqAll_len h2
        unfold sortOk at hz
        simp only [Bool.and_eq_true] at hz
        obtain ⟨⟨⟨z1, z2⟩, z3⟩, z4⟩ := hz
        have m1 : (us.zip ds).map (·.1) = us := List.map_fst_zip (by omega)
        have m2 : (us.zip ds).map (·.2) = ds := List.map_snd_zip (by omega)
        have mem : ∀ b ∈ us.zip ds, b.2 ∈ ds := fun b hb => (List.of_mem_zip (show (b.1, b.2) ∈ us.zip ds from hb)).2
        refine ⟨a, us.zip ds, rfl, by rw [m1]; exact h1, fun b hb => ⟨dq_dp _ _ (List.all_eq_true.mp z4 _ (mem b hb)) (dq_mono s _ _ (dqAll_zip h2 b hb)), of_decide_eq_true (List.all_eq_true.mp z3 _ (mem b hb))⟩, ?_, ?_, fun p np => ?_⟩
        · rw [m2]
          exact fun d hd d' hd' => List.all_eq_true.mp (List.all_eq_true.mp z1 d hd) d' hd'
        · rw [m2]
          rcases Bool.or_eq_true _ _ ▸ z2 with z | z
          · refine .inl fun d hd => ?_
            have := List.all_eq_true.mp z d hd
            unfold tupled at this
            split at this
            · exact ⟨_, _, rfl⟩
            · cases this
          · refine .inr fun d hd => ?_
            have := List.all_eq_true.mp z d hd
            unfold untupled at this
            split at this
            · cases this
            · cases this
            · rename_i n1 n2
              exact ⟨fun e => n2 e, fun xs e => n1 xs e⟩
        · have sF := same_upd (o := .lst (((us.zip ds).mergeSort (PySem.W.dataLe false (·.2))).map (·.1))) (s.free np)
          have mm : ((us.zip ds).mergeSort (PySem.W.dataLe false (·.2))).map (·.2) = sortL ds := by
            unfold sortL
            have z := List.map_mergeSort (r := PySem.W.dataLe false (fun b : V × PyData => b.2)) (s := PySem.W.dataLe false id) (f := fun b : V × PyData => b.2) (l := us.zip ds) (fun a _ b _ => rfl)
            rw [m2] at z
            exact z
          refine k _ _ _ (.new _ s np) (.lst (.inl upd_same) ?_)
          rw [← mm]
          exact dqAll_of fun b hb => dq_mono sF _ _ (dqAll_zip h2 b (List.mem_mergeSort.mp hb))
      · cases e
  · cases e
end
end VL

end

section
set_option Elab.async false
set_option linter.all false
set_option maxRecDepth 100000
/-! a comprehension over an owned list that its turns don't touch -/
namespace VL
open PySem PySem.Spec PyProof.Rows L2
/-- the objects of the slots S stay -/
def Kp (S : List Nat) (fp : FP) (H H' : Hp) : Prop := ∀ j ∈ S, ∀ c ∈ fp j, H' c = H c
def VIS (X : Cx) (S T : List Nat) (W : WV) (tg e : Expr) (f : M (List PyData)) : Prop := ∃ wi, PI X tg e wi ∧ ∀ σ H R F ρ fp o, EnvOk X.K F H σ ρ fp → f ρ = some o →
  (match o with
   | Er.ok xs ρ' => ∀ J G Y H1 F1 fp1, EStep X.K T F H σ ρ fp F1 H1 ρ' fp1 → Walk J xs.length G Y → (∀ F2 H2, Same F1 F2 → Same F2 H2 → Kp S fp1 H1 H2 → G H2) →
      (∀ i F2 H2 x H3, i < xs.length → Same F1 F2 → Same F2 H2 → Kp S fp1 H1 H2 → Y i H2 x H3 → ∃ F3 d, xs[i]? = some d ∧ Grow F2 H2 F3 H3 ∧ Dq X.K F3 x d) → R J H1
   | Er.ex c ρ' => ∀ H1 F1 fp1, EStep X.K T F H σ ρ fp F1 H1 ρ' fp1 → W c σ H1) → wi σ H R
section
variable {X : Cx} {T T1 T2 T3 : List Nat} {W : WV} {pos : Pos}
def iOwn (i : Nat) : M (List PyData) := fun ρ => match ρ[i]? with
  | some (.own _ (.lst ts)) => (match flat ts with
    | some ds => some (.ok ds ρ)
    | none => none)
  | _ => none
theorem vis_own (i : Nat) {tg : Expr} {x : Str} {pos : Pos} (hN : X.N[i]? = some x := by rfl) (hv : Vis X.env.scope x := by first | exact Or.inl rfl | exact Or.inr (Or.inl rfl) | exact Or.inr (Or.inr rfl)) (hd : (x == ("__debug__" : Str)) = false := by decide)
    (hcd : (x == ("__classdict__" : Str)) = false := by decide) : VIS X [i] [] W tg (.Name x pos) (iOwn i) := by
  refine ⟨_, pi_list (pe_var hN hv hd hcd), fun σ H R F ρ fp o E q P => ?_⟩
  unfold iOwn at q
  split at q
  · rename_i m ts h
    split at q
    · rename_i ds hf
      cases q
      obtain ⟨u, hu, q⟩ := E.sl i _ h
      have ets := flat_ok hf
      subst ets
      generalize hA : fp i = A at q
      cases q with
      | @lst a0 vs0 _ A0 h1 h2 h3 =>
        obtain ⟨_, ha⟩ := trs_dat' h3
        have mem : a0 ∈ fp i := by rw [hA]; exact List.mem_cons_self
        have w0 := walk_list (K := X.K) (a := a0) (xs := vs0)
        rw [dqAll_len ha] at w0
        refine ⟨_, sg_some.mp hu, a0, rfl, ⟨_, .inl (.inl h1)⟩, P _ _ _ H F fp (.refl E) w0 (fun F2 H2 a b k => .inl (.inl ((k i (by simp) a0 mem).trans h1))) fun j F2 H2 x H3 hi a b k y => ?_⟩
        obtain ⟨rfl, hy⟩ := y
        obtain ⟨v, hv, dv⟩ := dqAll_get ha (List.getElem?_eq_getElem hi)
        rw [hv] at hy; cases hy
        exact ⟨F2, _, List.getElem?_eq_getElem hi, .refl b, dq_mono a _ _ dv⟩
    · cases q
  · cases q
theorem tv_compS {K : Fg} {S : List Nat} {σ : Sg} {H : Hp} {Q : VK} {wi : TI} {fi : M (List PyData)} {gt : TG} {ws vs : List Nat} {G : MG} {tt : M Bool} {te : M Rv}
    (hi : ∀ σ H R F ρ fp o, EnvOk K F H σ ρ fp → fi ρ = some o →
      (match o with
       | Er.ok xs ρ' => ∀ J G Y H1 F1 fp1, EStep K T1 F H σ ρ fp F1 H1 ρ' fp1 → Walk J xs.length G Y → (∀ F2 H2, Same F1 F2 → Same F2 H2 → Kp S fp1 H1 H2 → G H2) →
          (∀ i F2 H2 x H3, i < xs.length → Same F1 F2 → Same F2 H2 → Kp S fp1 H1 H2 → Y i H2 x H3 → ∃ F3 d, xs[i]? = some d ∧ Grow F2 H2 F3 H3 ∧ Dq K F3 x d) → R J H1
       | Er.ex c ρ' => ∀ H1 F1 fp1, EStep K T1 F H σ ρ fp F1 H1 ρ' fp1 → W c σ H1) → wi σ H R)
    (hS : ∀ j ∈ S, j ∉ vs ∧ j ∉ T2 ++ T3) (hg : GOk K gt ws G) (hw : ∀ i ∈ ws, i ∈ vs) (h : tVN K (T1 ++ (T2 ++ T3)) W (nComp fi vs G tt te) σ H Q) : tLc wi gt (tVT K T2 W0 tt) (tV K T3 W0 te) vs σ H Q := by
  obtain ⟨F, ρ, fp, o, E, e, P⟩ := h
  unfold nComp bnd at e
  cases hf : fi ρ with
  | none => rw [hf] at e; cases e
  | some r =>
    rw [hf] at e
    cases r with
    | ex c ρ1 => cases e; exact hi σ H _ F ρ fp _ E hf fun H1 F1 fp1 s1 => P H1 F1 fp1 (s1.sub fun i hi => List.mem_append_left _ hi)
    | ok xs ρ1 =>
      refine hi σ H _ F ρ fp _ E hf fun J Gw Y H1 F1 fp1 s1 w hG hY D nD => ?_
      simp only at e
      unfold comp1 at e
      split at e
      · rename_i hn1
        split at e
        · rename_i ds ρe hgo
          split at e
          · rename_i hne
            cases ok_inj e
            have hFD : F1 D = none := s1.env.sub.free nD
            have hOD : ¬ Owns fp1 D := fun z => (s1.env.there z).1 nD
            have kpS : ∀ {F' H' : Hp} {ρ' : Rho} {fp' : FP}, Blk K (T2 ++ T3) vs F1 H1 σ ρ1 fp1 F' (hid H' D) (wipe σ vs) ρ' fp' → Kp S fp1 H1 H' := fun {F' H' ρ' fp'} b j hj c hc => by
              have z := (b.un j (hS j hj).1 (hS j hj).2).2.2 c hc
              have hne : c ≠ D := fun e => by subst e; exact hOD ⟨j, hc⟩
              rw [hid_ne hne] at z
              exact z
            -- the block's start, the list being hidden
            have b0 : Blk K (T2 ++ T3) vs F1 H1 σ ρ1 fp1 F1 (hid (upd H1 D (.lst [])) D) (wipe σ vs) (wipeR ρ1 vs) fp1 := by
              rw [hid_upd, hid_free nD]
              exact .of_w s1.env hn1 (wipe_length σ vs) fun i hi => wipe_out hi
            refine lc_it w (fun i H' => ∃ F' ρ' fp' acc ds', Blk K (T2 ++ T3) vs F1 H1 σ ρ1 fp1 F' (hid H' D) (wipe σ vs) ρ' fp' ∧ H' D = some (.lst acc) ∧ F' D = none ∧ ¬ Owns fp' D ∧ DqAll K F' acc ds' ∧ compGo vs G tt te (xs.drop i) ds' ρ' = some (ds, ρe))
              ⟨F1, wipeR ρ1 vs, fp1, [], [], b0, upd_same, hFD, hOD, .nil, by rw [List.drop_zero]; exact hgo⟩
              (fun i H' _ ⟨F', ρ', fp', acc, ds', b, _⟩ => hG F' H' b.st.fr (env_show b.st.env).sub (kpS b)) (fun i x H' H3 hilt ⟨F', ρ', fp', acc, ds', b, hD, hFD', hOD', hacc, hgo'⟩ y => ?_) fun H' ⟨F', ρ', fp', acc, ds', b, hD, hFD', hOD', hacc, hgo'⟩ => ?_
            · have E' := env_show b.st.env
              obtain ⟨F3, d, hd, g3, dx⟩ := hY i F' H' x H3 hilt b.st.fr E'.sub (kpS b) y
              have hdrop : xs.drop i = d :: xs.drop (i + 1) := by
                obtain ⟨hi', hd'⟩ := List.getElem?_eq_some_iff.mp hd
                rw [List.drop_eq_getElem_cons hi', hd']
              rw [hdrop] at hgo'
              unfold compGo at hgo'
              have s3 : EStep K [] F' H' (wipe σ vs) ρ' fp' F3 H3 ρ' fp' := g3.step E'
              obtain ⟨hD3, hF3, hO3⟩ := step_keeps s3.st hD hFD' hOD'
              have b3 : Blk K (T2 ++ T3) vs F1 H1 σ ρ1 fp1 F3 (hid H3 D) (wipe σ vs) ρ' fp' := b.trans ((Blk.of_e E' s3 (fun i hi => nomatch hi)).hid hF3 hO3 hD3)
              split at hgo'
              · cases hgo'
              · rename_i ρ4 h4
                refine hg x (wipe σ vs) H3 _ F3 ρ' fp' d ρ4 s3.env dx h4 fun σ4 fp4 s4 o4 => ?_
                have hF4 := hF3
                obtain ⟨hD4, _, hO4⟩ := step_keeps s4 hD3 hF3 hO3
                have b4 := b3.trans ((Blk.of_g (T := T2 ++ T3) s3.env s4 o4 hw).hid hF4 hO4 hD4)
                have hσ4 : wipe σ4 vs = wipe σ vs := wipe_same b4.len b4.sv
                refine ⟨hσ4, ?_⟩
                cases htt : tt ρ4 with
                | none => rw [htt] at hgo'; cases hgo'
                | some rt =>
                  rw [htt] at hgo'
                  cases rt with
                  | ex c ρ5 => cases hgo'
                  | ok k ρ5 =>
                    refine ⟨F3, ρ4, fp4, _, s4.env, htt, fun k' H5 F5 fp5 s5 r5 => ?_⟩
                    have r5 : k' = k := r5
                    subst r5
                    obtain ⟨hD5, hF5, hO5⟩ := step_keeps s5.st hD4 hF4 hO4
                    have b5 := b4.trans ((Blk.of_e (vs := vs) (T := T2 ++ T3) s4.env s5 (fun i hi => List.mem_append_left _ hi)).hid hF5 hO5 hD5)
                    cases k' with
                    | false =>
                      dsimp only
                      rw [if_neg Bool.false_ne_true]
                      simp only at hgo'
                      split at hgo'
                      · rename_i hn5
                        have bw := (Blk.of_w (T := T2 ++ T3) (σin := wipe σ vs) s5.env hn5 (by rw [wipe_length]; exact b5.len.symm) fun i hi => by rw [wipe_out hi]; exact (b5.sv i hi).symm).hid hF5 hO5 hD5
                        exact ⟨F5, wipeR ρ5 vs, fp5, acc, ds', b5.trans bw, hD5, hF5, hO5, dqAll_mono (g3.f.trans s5.st.fr) _ _ hacc, hgo'⟩
                      · cases hgo'
                    | true =>
                      dsimp only
                      rw [if_pos rfl]
                      simp only at hgo'
                      cases hte : te ρ5 with
                      | none => rw [hte] at hgo'; cases hgo'
                      | some re =>
                        rw [hte] at hgo'
                        cases re with
                        | ex c ρ6 => cases hgo'
                        | ok rv ρ6 =>
                          cases rv with
                          | o j => cases hgo'
                          | d d6 =>
                            refine ⟨F5, ρ5, fp5, _, s5.env, hte, fun y6 H6 F6 fp6 s6 r6 => ?_⟩
                            obtain ⟨hD6, hF6, hO6⟩ := step_keeps s6.st hD5 hF5 hO5
                            have b6 := b5.trans ((Blk.of_e (vs := vs) (T := T2 ++ T3) s5.env s6 (fun i hi => List.mem_append_right _ hi)).hid hF6 hO6 hD6)
                            simp only at hgo'
                            split at hgo'
                            · rename_i hn6
                              rw [Bool.and_eq_true] at hn6
                              have hacc6 := dqAll_mono (g3.f.trans (s5.st.fr.trans s6.st.fr)) _ _ hacc
                              refine ⟨acc, hD6, ?_, F6, wipeR ρ6 vs, fp6, acc ++ [y6], ds' ++ [d6], ?_, upd_same, hF6, hO6, dqAll_app hacc6 (.cons r6 .nil), hgo'⟩
                              · have := small_iff.mp hn6.1
                                rw [dqAll_len hacc6]
                                omega
                              · rw [hid_upd]
                                have bw := (Blk.of_w (T := T2 ++ T3) (σin := wipe σ vs) s6.env hn6.2 (by rw [wipe_length]; exact b6.len.symm) fun i hi => by rw [wipe_out hi]; exact (b6.sv i hi).symm).hid hF6 hO6 hD6
                                exact b6.trans bw
                            · cases hgo'
            · rw [List.drop_length] at hgo'
              cases (Option.some.inj hgo')
              -- the end: the slots as they were
              have E' := env_show b.st.env
              have hl1 : ρ1.length = ρe.length := b.rl.symm
              have slot : ∀ (i : Nat), i ∈ vs → (restR ρ1 ρe vs)[i]? = ρ1[i]? := fun i hi => restR_in hl1 hi
              have Er : EnvOk K F' H' σ (restR ρ1 ρe vs) fp' := by
                refine ⟨E'.sub, by rw [restR_len, ← hl1]; exact s1.env.len, fun i s hs => ?_, fun i hi => ?_, E'.nd, E'.ap, E'.tb, E'.al' (fun j i p h => ?_) fun i p t h => ?_⟩
                rotate_left 2
                · by_cases hv : j ∈ vs
                  · rw [slot j hv] at h; exact absurd h (noOwn_al hn1 hv i p)
                  · rw [restR_out hv] at h; exact ⟨h, (wipe_out hv).symm⟩
                · by_cases hv : i ∈ vs
                  · rw [slot i hv] at h; exact absurd h (noOwn_get hn1 hv _ t)
                  · rw [restR_out hv] at h; exact ⟨h, (wipe_out hv).symm, fun _ _ => rfl⟩
                rotate_right 2
                · by_cases hv : i ∈ vs
                  · rw [slot i hv] at hs
                    have q := s1.env.sl i s hs
                    cases s with
                    | no => trivial
                    | al _ _ => trivial
                    | val d => obtain ⟨u, e1, e2⟩ := q; exact ⟨u, e1, dq_mono b.st.fr _ _ e2⟩
                    | own m t => exact absurd hs (noOwn_get hn1 hv m t)
                  · rw [restR_out hv] at hs
                    have q := E'.sl i s hs
                    rw [wipe_out hv] at q
                    exact q
                · by_cases hv : i ∈ vs
                  · exact E'.nil i fun m t z => noOwn_get hne hv m t z
                  · refine E'.nil i fun m t z => hi m t ?_
                    rw [restR_out hv]; exact z
              have fin : EStep K (T1 ++ (T2 ++ T3)) F1 H1 σ ρ1 fp1 F' H' (restR ρ1 ρe vs) fp' := by
                refine ⟨⟨Er, b.st.fr, b.st.nf, fun c hc => ?_, fun c o hc hn nt => (hid_some (b.st.frame c o hc hn nt)).2, b.st.own, fun i m t h hm => ?_, fun i t h => ?_⟩, fun i m t h => ?_, fun i hi => ?_⟩
                · refine b.st.dom c ?_
                  by_cases z : c = D
                  · subst z; exact hid_at
                  · rw [hid_ne z]; exact hc
                · have hv : i ∉ vs := fun z => noOwn_get hn1 z _ _ h
                  obtain ⟨_, m', t', h', k'⟩ := b.st.pin i m t h hm
                  exact ⟨rfl, m', t', by rw [restR_out hv]; exact h', k'⟩
                · have hv : i ∉ vs := fun z => noOwn_get hn1 z _ _ h
                  obtain ⟨_, h', hfp, hb⟩ := b.st.lock i t h
                  refine ⟨rfl, by rw [restR_out hv]; exact h', hfp, fun c hc => ?_⟩
                  have z := hb c hc
                  have hne : c ≠ D := fun z => by subst z; exact hOD ⟨i, hc⟩
                  rw [hid_ne hne] at z
                  exact z
                · have hv : i ∉ vs := fun z => noOwn_get hn1 z _ _ h
                  obtain ⟨t', h'⟩ := b.ko i m t hv h
                  exact ⟨t', by rw [restR_out hv]; exact h'⟩
                · by_cases hv : i ∈ vs
                  · have hnil : fp1 i = [] := s1.env.nil i fun m t z => noOwn_get hn1 hv m t z
                    have hnil' : fp' i = [] := E'.nil i fun m t z => noOwn_get hne hv m t z
                    refine ⟨slot i hv, by rw [hnil, hnil'], fun c hc => ?_⟩
                    rw [hnil] at hc
                    cases hc
                  · obtain ⟨a1, a2, a3⟩ := b.un i hv fun z => hi (List.mem_append_right _ z)
                    refine ⟨by rw [restR_out hv]; exact a1, a2, fun c hc => ?_⟩
                    have z := a3 c hc
                    have hne : c ≠ D := fun z => by subst z; exact hOD ⟨i, hc⟩
                    rw [hid_ne hne] at z
                    exact z
              refine P (.ref D) H' F' fp' ((s1.sub fun i hi => List.mem_append_left _ hi).trans fin) ⟨[D], ?_⟩
              refine ⟨.lst hD hFD' (trs_dat hacc), by simp, fun c hc => ?_, fun c hc => ?_⟩
              · rw [List.mem_singleton.mp hc]
                exact .inl (s1.st.dom D nD)
              · rw [List.mem_singleton.mp hc]
                exact hOD'
          · cases e
        · cases e
      · cases e
theorem vn_compS {S : List Nat} {elt tg iter : Expr} {ifs : List Expr} {scope : Scope} {own : List (Str × Nat)} {fi : M (List PyData)} {gt : TG} {ws : List Nat} {G : MG} {tt : M Bool} {te : M Rv} (hc : X.calm = true) (hN : X.N.Nodup) (hi : VIS X S T1 W tg iter fi) (ok : BlkOk X.N X.env.scope scope own)
    (hg : ∀ (s : Shared) (H : Hp) (C : Addr) (cl : List (Str × Addr)) (fp : List Addr), VG (X.blk s H scope (compEnvC scope cl C X.env) fp) tg gt ws G) (hw : ∀ i ∈ ws, i ∈ own.map (·.2)) (hS : ∀ j ∈ S, j ∉ own.map (·.2) ∧ j ∉ T2 ++ T3)
    (ht : ∀ (s : Shared) (H : Hp) (C : Addr) (cl : List (Str × Addr)) (fp : List Addr), VTs (X.blk s H scope (compEnvC scope cl C X.env) fp) T2 W0 ifs tt)
    (he : ∀ (s : Shared) (H : Hp) (C : Addr) (cl : List (Str × Addr)) (fp : List Addr), VE (X.blk s H scope (compEnvC scope cl C X.env) fp) T3 W0 elt te) (hs : ∀ x, foldedSetIterable iter X.env x = pure x := by intro _; rfl) :
    VN X (T1 ++ (T2 ++ T3)) W (.ListComp elt [⟨tg, iter, ifs, 0⟩] scope pos) (nComp fi (own.map (·.2)) G tt te) := by
  obtain ⟨wi, p1, q1⟩ := hi
  exact pe_imp (pe_lc (tt := tVT X.K T2 W0 tt) (te := tV X.K T3 W0 te) hc hN p1 ok (fun s H C cl fp => (hg s H C cl fp).1) ht he hs) fun σ H Q h => tv_compS q1 hS (hg ⟨X.s_0.heap, X.s_0.gens, X.s_0.drawn, X.s_0.toks, X.s_0.os⟩ X.H_0 0 [] []).2 hw h
end
/-! list(zip(a, b)), new -/
section
variable {X : Cx} {T : List Nat} {W : WV} {K : Fg} {fs : M (List Rv)} {e e2 : Expr} {p p' pos pos' : Pos}
def nzip1 (rs : List Rv) : M Tr := fun ρ => match rs with
  | [x, y] => (match derS ρ x, derS ρ y with
    | some (.list ds), some (.list es) => if ds.length = es.length then some (.ok (.lst ((zipP ds es).map .dat)) ρ) else none
    | _, _ => none)
  | _ => none
def nListZip (fs : M (List Rv)) : M Tr := bnd fs nzip1
theorem vn_listzip (hcalm : X.calm = true) (hg : Gl X "zip") (hm : X.mg "zip" = none) (hg' : Gl X "list") (hm' : X.mg "list" = none) (ha : VA X T W [e, e2] fs)
    (hs : starEach [e, e2] X.env = (false, eval e X.env) :: starEach [e2] X.env := by rfl) (hpl : (backTo pos (starEach [e2] X.env)).any (·.1) = false := by rfl)
    (hs' : starEach [Expr.Call (.Name "zip" p) [e, e2] [] pos] X.env = (false, eval (.Call (.Name "zip" p) [e, e2] [] pos) X.env) :: starEach [] X.env := by rfl) (hpl' : (backTo pos' (starEach [] X.env)).any (·.1) = false := by rfl) :
    VN X T W (.Call (.Name "list" p') [.Call (.Name "zip" p) [e, e2] [] pos] [] pos') (nListZip fs) :=
  pe_imp (pe_listzip hcalm hg hm hg' hm' ha hs hpl hs' hpl') fun σ H Q ⟨F, ρ, fp, o, E, q, P⟩ => by
    refine tv_bnd E q P (fun i hi => hi) fun rs ρ1 vs H1 F1 fp1 s1 r1 e1 P1 => ?_
    unfold nzip1 at e1
    split at e1
    · rename_i x y
      split at e1
      · rename_i ds es hx hy
        split at e1
        · rename_i hl
          cases ok_inj e1
          cases r1 with
          | cons ra rb =>
            cases rb with
            | cons rb rc =>
              cases rc
              obtain ⟨a, xs, rfl, h1, h2⟩ := (derS_ok s1.env ra hx).list s1.env.sub
              obtain ⟨b, ys, rfl, h3, h4⟩ := (derS_ok s1.env rb hy).list s1.env.sub
              have hln : xs.length = ys.length := by rw [dqAll_len h2, dqAll_len h4]; exact hl
              refine ⟨a, b, xs, ys, rfl, .inl h1, .inl h3, hln, fun p Ts np nT nd lT => ?_⟩
              have sub := s1.env.sub
              have nTF : ∀ T ∈ Ts, F1 T = none := fun T hT => sub.free (nT T hT).1
              have pT : p ∉ Ts := fun z => (nT p z).2 rfl
              have npF : layT F1 Ts (xs.zip ys) p = none := by rw [layT_old pT]; exact sub.free np
              have npH : layT H1 Ts (xs.zip ys) p = none := by rw [layT_old pT]; exact np
              have sF : Same F1 (layT F1 Ts (xs.zip ys)) := layT_same nTF
              have gr : Grow F1 H1 (layT F1 Ts (xs.zip ys)) (upd (layT H1 Ts (xs.zip ys)) p (.lst (Ts.map .ref))) := by
                refine ⟨(layT_same fun T hT => (nT T hT).1).trans (same_upd npH), sF, (layT_le sub).trans (same_upd npH), fun b hb hb' => ?_⟩
                by_cases hbT : b ∈ Ts
                · exact (nT b hbT).1
                · rw [layT_old hbT] at hb'
                  exact absurd hb hb'
              refine P1 _ _ _ fp1 (gr.step s1.env) ⟨[p], .lst upd_same npF (trs_dat (lay_dq sF h2 h4 lT hln fun j T p' hj hp' => layT_get nd hj hp')), by simp, fun b hb => ?_, fun b hb ho => ?_⟩
              · rw [List.mem_singleton.mp hb]; exact .inl np
              · rw [List.mem_singleton.mp hb] at ho
                exact (s1.env.there ho).1 np
        · cases e1
      · cases e1
    · cases e1
/-! list + list, new -/
def cat1 (x y : Rv) : M Tr := fun ρ => match derS ρ x, derS ρ y with
  | some (.list as), some (.list bs) => if small (as.length + bs.length) then some (.ok (.lst ((as ++ bs).map .dat)) ρ) else none
  | _, _ => none
def nCat (fa fb : M Rv) : M Tr := bnd fa fun x => bnd fb fun y => cat1 x y
variable {T1 T2 : List Nat} {fa fb : M Rv} {a b : Expr}
theorem vn_cat (ha : VE X T1 W a fa) (hb : VE X T2 W b fb) : VN X (T1 ++ T2) W (.BinOp a .Add b pos) (nCat fa fb) :=
  pe_imp (pe_op op_catR ha hb) fun σ H Q ⟨F, ρ, fp, o, E, e, P⟩ => by
    refine tv_bnd E e P (fun i hi => List.mem_append_left _ hi) fun x ρ1 v H1 F1 fp1 s1 r1 e1 P1 => ?_
    refine tv_bnd s1.env e1 P1 (fun i hi => List.mem_append_right _ hi) fun y ρ2 w H2 F2 fp2 s2 r2 e2 P2 => ?_
    unfold cat1 at e2
    split at e2
    · rename_i as bs hd hk
      split at e2
      · rename_i hz
        cases ok_inj e2
        obtain ⟨a, vs, rfl, h1, h2⟩ := (derS_ok s2.env (RvOk.step s2 r1) hd).list s2.env.sub
        obtain ⟨b, ws, rfl, h3, h4⟩ := (derS_ok s2.env r2 hk).list s2.env.sub
        refine ⟨a, b, vs, ws, rfl, rfl, h1, h3, by rw [dqAll_len h2, dqAll_len h4]; exact small_iff.mp hz, fun p np => ?_⟩
        have z := new_lst (T := T1 ++ T2) s2.env np (dqAll_app h2 h4)
        exact P2 _ _ _ fp2 z.1 ⟨_, z.2⟩
      · cases e2
    · cases e2
end
end VL

end

section
set_option Elab.async false
set_option linter.all false
set_option maxRecDepth 100000
/-! {k: v} with a tuple as key; place.pop(i); a call of a new tree -/
namespace VL
open PySem PySem.Spec PyProof.Rows L2
section
variable {X : Cx} {T T1 T2 T3 : List Nat} {W : WV} {K : Fg} {pos : Pos}
def tDisp1T (tk tv : TE) : TE := fun σ H Q => ∀ p, H p = none → tPairs [(tk, tv)] σ (upd H p (.dT [])) fun ps H2 => ∃ x y, ps = [(x, y)] ∧ H2 p = some (.dT []) ∧ ∃ b ks, x = .ref b ∧ H2 b = some (.tup (ks.map kV)) ∧ Q (.ref p) (upd H2 p (.dT [(ks, y)]))
theorem pe_disp1T {k v : Expr} {tk tv : TE} (hu : X.A.units + 1 < cLine) (hk : PE X k tk) (hv : PE X v tv)
    (hshape : (evalEachOpt [some k] X.env).zip ((evalEach [v] X.env).map fun v => do let x ← v; standAt pos; pure x) = (pairTrees [some k] [v] X.env pos).map fun p => (some p.1, p.2) := by rfl) (hne : pairTrees [some k] [v] X.env pos ≠ [] := by intro h; cases h) (h15 : (pairTrees [some k] [v] X.env pos).length ≤ 15 := by exact Nat.le_of_ble_eq_true rfl) :
    PE X (.Dict [some k] [v] pos) (tDisp1T tk tv) := by
  refine ⟨fun pins s σ H Q I q => ?_⟩
  have hn := I.hok.fresh (Nat.le_refl s.heap.objs.size)
  have I1 := I.laid (a := s.heap.objs.size) (o := .dT []) (h' := s.heap.push { cls := .type "dict", data := .dict #[] }) (t' := s.toks) (fun _ _ q => Heap.get?_push_of_some _ q) (Nat.le_refl _) (dt_empty s.heap I.big)
  rw [arm_eval_Dict, hshape, dictDisplay_pairs _ hne (by omega)]
  refine wpAny_bind (wpAny_standAt (wpAny_bind (wpAny_subDictH (knd := tupleKind (mixKind X.prog X.w)) (show (tupleKind (mixKind X.prog X.w)).room X.A from by show X.A.units < cLine; omega) h15 ?_)))
  have ps := pps_cons (pos := pos) hk hv pps_nil
  refine thn (ps.run pins _ σ _ (fun ps H2 => ∃ x y, ps = [(x, y)] ∧ H2 s.heap.objs.size = some (.dT []) ∧ ∃ b ks, x = .ref b ∧ H2 b = some (.tup (ks.map kV)) ∧ Q (.ref s.heap.objs.size) (upd H2 s.heap.objs.size (.dT [(ks, y)]))) I1 ?_) fun ws s2 ⟨ps, H2, I2, rel, x, y, ep, e, b, ks, ex, eb, q2⟩ => ?_
  · exact q _ hn
  · subst ep ex
    cases rel with
    | @cons _ p1 _ _ r rr =>
      cases rr
      obtain ⟨u1, u2⟩ := p1
      obtain ⟨ru, rv⟩ := r
      cases (show u1 = Value.ref b from ru)
      obtain ⟨z, hd, xs, rel, dd⟩ := dt_of I2.hok e
      cases rel
      refine ⟨[(ks, b, u2)], ⟨rfl, rfl, key_of I2.hok eb, True.intro⟩, dd, fun h' tk dd' hs => wpAny_pure ⟨.ref s.heap.objs.size, _, ?_, rfl, q2⟩⟩
      obtain ⟨o, es, ep, hq, h2, h3, h4, _, h5⟩ := dd'
      refine d_write I2 (by rw [e]; exact True.intro) hs ⟨o, hq⟩ ⟨by show 1 ≤ sizeLine; rw [sizeLine_eq]; omega, hd, _, .cons ⟨rfl, ?_, rv⟩ .nil, o, es, ep, hq, h2, h3, h4, h5⟩
      rw [upd_ne (ne_of eb e (fun z => nomatch z))]
      exact eb
/-- a new object of our own is written -/
theorem estep_upd {F H F2 H2 : Hp} {σ : Sg} {ρ ρ2 : Rho} {fp fp2 : FP} {p : Addr} {o : HO} (E : EnvOk K F H σ ρ fp) (s : EStep K T F H σ ρ fp F2 H2 ρ2 fp2) (np : H p = none) (nO : ¬ Owns fp2 p) (nF : F2 p = none) {o2 : HO} (h2 : H2 p = some o2) (hn : ∀ ps, o2 ≠ .tbl ps := by exact fun _ z => nomatch z) : EStep K T F H σ ρ fp F2 (upd H2 p o) ρ2 fp2 := by
  have ne : ∀ i b, b ∈ fp i → b ≠ p := fun i b hb z => (E.there ⟨i, hb⟩).1 (by rw [z]; exact np)
  have ne2 : ∀ i b, b ∈ fp2 i → b ≠ p := fun i b hb z => nO ⟨i, by rw [← z]; exact hb⟩
  have E2 := s.env
  refine ⟨⟨⟨fun b u e => ?_, E2.len, fun i sl h => ?_, E2.nil, E2.nd, E2.ap, E2.tb.upd fun ps z => hn ps (Option.some.inj (h2.symm.trans z)), E2.al' (fun _ _ _ h => ⟨h, rfl⟩) fun i _ _ h => ⟨h, rfl, fun b hb => upd_ne (ne2 i b hb)⟩⟩, s.st.fr, s.st.nf, fun b hb => ?_, fun b u e n nt => ?_, s.st.own, s.st.pin, fun i t h => ?_⟩, s.ko, fun i hi => ?_⟩
  · rw [upd_ne fun z => by rw [z, nF] at e; cases e]
    exact E2.sub b u e
  · have q := E2.sl i sl h
    cases sl with
    | no => trivial
    | al _ _ => trivial
    | val d => exact q
    | own m t =>
      obtain ⟨u, e1, e2⟩ := q
      exact ⟨u, e1, e2.move (Same.refl _) fun b hb => ⟨upd_ne (ne2 i b hb), (e2.mem b hb).2⟩⟩
  · by_cases z : b = p
    · rw [z]; exact np
    · rw [upd_ne z] at hb; exact s.st.dom b hb
  · rw [upd_ne fun z => by rw [z, np] at e; cases e]
    exact s.st.frame b u e n nt
  · obtain ⟨a1, a2, a3, a4⟩ := s.st.lock i t h
    exact ⟨a1, a2, a3, fun b hb => by rw [upd_ne (ne i b hb)]; exact a4 b hb⟩
  · obtain ⟨a1, a2, a3⟩ := s.un i hi
    exact ⟨a1, a2, fun b hb => by rw [upd_ne (ne i b hb)]; exact a3 b hb⟩
def mkDT (x y : Rv) : M Tr := fun ρ => match x, y with
  | .d kd, .d d => (match keyT kd with
    | some ks => some (.ok (.dt [(ks, .dat d)]) ρ)
    | none => none)
  | _, _ => none
def nDT (fk fv : M Rv) : M Tr := bnd fk fun x => bnd fv fun y => mkDT x y
theorem vn_dt1 {k v : Expr} {fk fv : M Rv} (hu : X.A.units + 1 < cLine) (hk : VE X T1 W k fk) (hv : VE X T2 W v fv)
    (hshape : (evalEachOpt [some k] X.env).zip ((evalEach [v] X.env).map fun v => do let x ← v; standAt pos; pure x) = (pairTrees [some k] [v] X.env pos).map fun p => (some p.1, p.2) := by rfl) (hne : pairTrees [some k] [v] X.env pos ≠ [] := by intro h; cases h) (h15 : (pairTrees [some k] [v] X.env pos).length ≤ 15 := by exact Nat.le_of_ble_eq_true rfl) :
    VN X (T1 ++ T2) W (.Dict [some k] [v] pos) (nDT fk fv) :=
  pe_imp (pe_disp1T hu hk hv hshape hne h15) fun σ H Q ⟨F, ρ, fp, o, E, e, P⟩ => by
    intro p np
    have s0 : EStep X.K (T1 ++ T2) F H σ ρ fp F (upd H p (.dT [])) ρ fp := (Grow.lay (.dT []) E.sub np).step E
    have nO : ¬ Owns fp p := fun z => (E.there z).1 np
    have nF : F p = none := E.sub.free np
    have P0 := P.step s0 (fun i hi => hi)
    show TVg T1 W (rlV X.K) fk σ (upd H p (.dT [])) _
    refine tv_bnd s0.env e P0 (fun i hi => List.mem_append_left _ hi) fun x ρ1 v H1 F1 fp1 s1 r1 e1 P1 => ?_
    refine tv_bnd s1.env e1 P1 (fun i hi => List.mem_append_right _ hi) fun y ρ2 w H2 F2 fp2 s2 r2 e2 P2 => ?_
    unfold mkDT at e2
    split at e2
    · rename_i kd d
      split at e2
      · rename_i ks hks
        cases ok_inj e2
        have a1 := s1.st.frame p _ upd_same nO fun _ z => nomatch z
        have nO1 : ¬ Owns fp1 p := fun z => (s1.st.own p z).elim nO fun h => by rw [upd_same] at h; cases h
        have nF1 : F1 p = none := by
          cases h : F1 p with
          | none => rfl
          | some u => exact ((s1.st.nf p nF (by rw [h]; exact fun z => nomatch z)).elim (fun h => by rw [upd_same] at h; cases h) fun z => z.elim nO fun z => by rcases z with ⟨_, z⟩ | ⟨_, z⟩ <;> rw [upd_same] at z <;> cases z).elim
        have a2 := s2.st.frame p _ a1 nO1 fun _ z => nomatch z
        have nO2 : ¬ Owns fp2 p := fun z => (s2.st.own p z).elim nO1 fun h => by rw [a1] at h; cases h
        have nF2 : F2 p = none := by
          cases h : F2 p with
          | none => rfl
          | some u => exact ((s2.st.nf p nF1 (by rw [h]; exact fun z => nomatch z)).elim (fun h => by rw [a1] at h; cases h) fun z => z.elim nO1 fun z => by rcases z with ⟨_, z⟩ | ⟨_, z⟩ <;> rw [a1] at z <;> cases z).elim
        have hk2 : Dq X.K F2 v kd := RvOk.step s2 (show RvOk X.K F1 σ ρ1 v (.d kd) from r1)
        have hd2 : Dq X.K F2 w d := r2
        obtain ⟨b, rfl, hb⟩ := keyT_ok hk2 hks
        refine ⟨_, _, rfl, a2, b, ks, rfl, s2.env.sub _ _ hb, ?_⟩
        have st := (s0.trans (s1.sub fun i hi => List.mem_append_left _ hi)).trans (s2.sub fun i hi => List.mem_append_right _ hi)
        refine P _ _ F2 fp2 (estep_upd E st np nO2 nF2 a2) ⟨[p], .dt upd_same nF2 rfl ?_, by simp, fun b hb => ?_, fun b hb => ?_⟩
        · have z := TrsOk.cons (TrOk.dat (H := upd H2 p (.dT [(ks, w)])) hd2) TrsOk.nil
          simpa using z
        · rw [List.mem_singleton.mp hb]; exact .inl np
        · rw [List.mem_singleton.mp hb]; exact nO2
      · cases e2
    · cases e2
/-! ### place.pop(i): a list of data -/
def pop1 (T2 : List Nat) (r : Nat × List Nat) (rs : List Rv) : M Rv := fun ρ => if T2.contains r.1 || !modeOk ρ r.1 then none else match treeAt ρ r, rs with
  | some (.lst ts), [.d (.int n)] => (match flat ts with
    | some ds => if 0 ≤ n ∧ n < 2 ^ 63 then (match ds[n.toNat]? with
      | some d => some (.ok (.d d) (putAt ρ r (.lst ((ds.eraseIdx n.toNat).map .dat))))
      | none => none) else none
    | none => none)
  | _, _ => none
def cPop (i : Nat) (T2 : List Nat) (g : M (List Rv)) : M Rv := fun ρ => if isLst (treeAt ρ (i, [])) then bnd g (pop1 T2 (i, [])) ρ else none
theorem dqAll_erase {F : Hp} : ∀ {vs : List V} {ds : List PyData} {n : Nat}, DqAll K F vs ds → DqAll K F (vs.eraseIdx n) (ds.eraseIdx n)
  | _, _, _, .nil => .nil
  | _, _, 0, .cons _ t => t
  | _, _, n + 1, .cons r t => .cons r (dqAll_erase (n := n) t)
variable {x : Str} {e : Expr} {fs : M (List Rv)} {apos cpos xpos : Pos}
theorem ve_pop (i : Nat) (hn : VA X T2 W [e] fs) (hT : T2 = T3 := by rfl) (hN : X.N[i]? = some x := by rfl) (hv : Vis X.env.scope x := by first | exact Or.inl rfl | exact Or.inr (Or.inl rfl) | exact Or.inr (Or.inr rfl)) (hd : (x == ("__debug__" : Str)) = false := by decide)
    (hcd : (x == ("__classdict__" : Str)) = false := by decide) (hbase : attributeBase (.Name x xpos) "pop" X.env (eval (.Name x xpos) X.env) = eval (.Name x xpos) X.env := by rfl)
    (hfew : ((backTo cpos (starEach [e] X.env)).all (fun x => !x.1) && (backToKw cpos (keywordEach [] X.env)).all (fun x => x.1.isSome)
      && decide (([e] : List Expr).length + ([] : List Keyword).length + (if ([] : List Keyword).isEmpty then 0 else 1) < 30)) = true := by rfl)
    (hline : (apos.endLine == cpos.line) = true := by rfl) (hst : starEach [e] X.env = (false, eval e X.env) :: starEach [] X.env := by rfl) (hplain : (backTo cpos (starEach [] X.env)).any (·.1) = false := by rfl) :
    VE X (T2 ++ [i]) W (.Call (.Attribute (.Name x xpos) "pop" apos) [e] [] cpos) (cPop i T3 fs) :=
  pe_imp (pe_bm PySem.F.plainAttrs_list PySem.F.slot_list_pop PySem.F.type_list_pop mt_popAt (vp_var i (X := X) (W := W) hN hv hd hcd) hn hbase hfew hline hst hplain) fun σ H Q ⟨F, ρ, fp, ou, E, q, P⟩ => by
    subst hT
    unfold cPop at q
    split at q
    · rename_i hl
      obtain ⟨ts, hts⟩ := isLst_some hl
      have hown : ∃ m t, ρ[i]? = some (.own m t) := by
        unfold treeAt at hts
        cases h : ρ[i]? with
        | none => rw [h] at hts; cases hts
        | some sl =>
          cases sl with
          | own m t => exact ⟨m, t, rfl⟩
          | _ => rw [h] at hts; cases hts
      obtain ⟨m, t, hmt⟩ := hown
      refine ⟨F, ρ, fp, .ok (i, []) ρ, E, by unfold pVar; rw [hmt], fun v H1 F1 fp1 s1 r1 => ?_⟩
      refine ⟨place_list s1.env r1 hl, ?_⟩
      have P1 := P.step s1 (fun j hj => nomatch hj)
      refine tv_bnd s1.env q P1 (fun j hj => List.mem_append_left _ hj) fun rs ρ2 ws H2 F2 fp2 s2 r2 e2 P2 => ?_
      unfold pop1 at e2
      split at e2
      · cases e2
      · rename_i hc
        obtain ⟨hT, hc'⟩ := touch_of hc
        have pl := place_step s1.env s2 hT r1
        split at e2
        · rename_i ts' n hts'
          split at e2
          · rename_i ds hfl
            split at e2
            · rename_i h0
              split at e2
              · rename_i d hd
                cases ok_inj e2
                cases r2 with
                | cons ra rb =>
                  cases rb
                  cases ra
                  obtain ⟨a, vs, rfl, ha, hda, st⟩ := mut_dat (.refl s2.env : EStep X.K [] F2 H2 σ ρ2 fp2 F2 H2 ρ2 fp2) hc' pl hts' hfl
                  obtain ⟨y, hy, dy⟩ := dqAll_get hda hd
                  obtain ⟨fp', st⟩ := st (vs.eraseIdx n.toNat) (ds.eraseIdx n.toNat) (dqAll_erase hda)
                  have hlt := (List.getElem?_eq_some_iff.mp hy).1
                  refine ⟨a, vs, n, n.toNat, y, rfl, rfl, ha, by omega, h0.2, seqIndex_of h0.1 (by omega), hy, ?_⟩
                  exact P2 y _ F2 fp' (st.sub fun j hj => List.mem_append_right _ (by simpa using hj)) dy
              · cases e2
            · cases e2
          · cases e2
        · cases e2
    · cases q
/-! ### f(e), e a new tree that goes with the call -/
def call1T (f : Fn) (t : Tr) : M Tr := fun ρ => match f [.own .free t] with
  | some (.ret r, _) => some (.ok r ρ)
  | _ => none
def nCallT (f : Fn) (g : M Tr) : M Tr := bnd g (call1T f)
variable {k : Nat} {f : Addr} {fd : FuncData} {ps : List Str} {F : Fn} {p : Pos} {fn : M Tr}
theorem vn_callT (G : FnOk X.prog X.w X.K X.mg X.base CX0 k f fd ps (spV X.K Wx0 1 F)) (hr : Room k X.A) (hg : Gl X x) (hm : X.mg x = some (.ref f)) (hk : PySem.W.keepIn X.K (.ref f) = true) (hb : Binds X.K fd ps [])
    (ha : VN X T W e fn) (hdb : (x == ("__debug__" : Str)) = false := by decide) (he : starEach [e] X.env = (false, eval e X.env) :: starEach [] X.env := by rfl) (hpl : (backTo pos (starEach [] X.env)).any (·.1) = false := by rfl) :
    VN X T W (.Call (.Name x p) [e] [] pos) (nCallT F fn) :=
  pe_imp (pe_call G hr hg hm hk hb .nil pass0 (pa_cons ha pa_nil he) hdb he hpl) fun σ H Q ⟨F0, ρ, fp, o, E, q, P⟩ => by
    unfold nCallT bnd at q
    cases hf : fn ρ with
    | none => rw [hf] at q; cases q
    | some r0 =>
      rw [hf] at q
      cases r0 with
      | ex c ρ1 => cases q; exact ⟨F0, ρ, fp, _, E, hf, fun H1 F1 fp1 st => P H1 F1 fp1 st⟩
      | ok t ρ1 =>
        simp only at q
        unfold call1T at q
        split at q
        · rename_i r outs hF
          cases ok_inj q
          refine ⟨F0, ρ, fp, _, E, hf, fun v H1 F1 fp1 s1 ⟨A, n⟩ => ?_⟩
          show spV X.K Wx0 1 F ([v] ++ []) H1 Q _
          have E1 := s1.env
          let fpA : FP := fun i => if i = 0 then A else []
          have oA : ∀ b, Owns fpA b ↔ b ∈ A := fun b => ⟨fun ⟨i, h⟩ => by
            by_cases hi : i = 0
            · simpa [fpA, hi] using h
            · simp [fpA, hi] at h, fun h => ⟨0, by simpa [fpA] using h⟩⟩
          have EA : EnvOk X.K F1 H1 ([v].map some) [.own .free t] fpA := by
            refine ⟨E1.sub, rfl, fun i s h => ?_, fun i h => ?_, fun i => ?_, fun i j b h1 h2 => ?_, E1.tb, fun j i p t h _ => by
              match j, h with
              | 0, h => cases h
              | j + 1, h => simp at h⟩
            · cases i with
              | zero => simp at h; subst h; exact ⟨v, rfl, n.ok⟩
              | succ i => simp at h
            · by_cases hi : i = 0
              · subst hi; exact absurd rfl (h .free t)
              · simp [fpA, hi]
            · by_cases hi : i = 0
              · simpa [fpA, hi] using n.nd
              · simp [fpA, hi]
            · by_cases hi : i = 0 <;> by_cases hj : j = 0 <;> simp_all [fpA]
          refine ⟨rfl, F1, [.own .free t], fpA, _, outs, EA, hF, fun v' A' H' F' fp' st n' => ?_⟩
          have nF' : ∀ i, ∀ b ∈ fp1 i, H' b = H1 b ∧ F' b = none := fun i b hb => by
            have th := E1.there ⟨i, hb⟩
            have nA : ¬ Owns fpA b := fun z => n.out b ((oA b).mp z) ⟨i, hb⟩
            refine ⟨?_, ?_⟩
            · cases h : H1 b with
              | none => exact absurd h th.1
              | some u => exact st.frame b u h nA fun ps z => E1.ntb ⟨i, hb⟩ ps (z ▸ h)
            · cases h : F' b with
              | none => rfl
              | some u => exact ((st.nf b th.2 (by rw [h]; exact fun z => nomatch z)).elim th.1 fun z => z.elim nA (E1.nkt ⟨i, hb⟩)).elim
          have EF : EnvOk X.K F' H' σ ρ1 fp1 := by
            refine ⟨st.env.sub, E1.len, fun i s h => ?_, E1.nil, E1.nd, E1.ap, st.env.tb, E1.al' (fun _ _ _ h => ⟨h, rfl⟩) fun i _ _ h => ⟨h, rfl, fun b hb => (nF' i b hb).1⟩⟩
            have q := E1.sl i s h
            cases s with
            | no => trivial
            | al _ _ => trivial
            | val d => obtain ⟨u, e1, e2⟩ := q; exact ⟨u, e1, dq_mono st.fr _ _ e2⟩
            | own m t => obtain ⟨u, e1, e2⟩ := q; exact ⟨u, e1, e2.move st.fr (nF' i)⟩
          have back : ∀ b, (H1 b = none ∨ Owns fpA b) → H b = none ∨ Owns fp b := fun b h => by
            rcases h with h | h
            · exact .inl (s1.st.dom b h)
            · exact n.new b ((oA b).mp h)
          refine P v' H' F' fp1 ⟨⟨EF, s1.st.fr.trans st.fr, fun b h h' => ?_, fun b h => s1.st.dom b (st.dom b h), fun b u h nb nt => ?_, s1.st.own, s1.st.pin, fun i t h => ?_⟩, s1.ko, fun i hi => ?_⟩ ⟨A', n'.ok, n'.nd, fun b hb => back b (n'.new b hb), fun b hb ho => ?_⟩
          · by_cases h1 : F1 b = none
            · rcases st.nf b h1 h' with z | z | z
              · exact (back b (.inl z)).imp_right .inl
              · exact (back b (.inr z)).imp_right .inl
              · exact s1.st.kt z
            · exact s1.st.nf b h h1
          · have h1 := s1.st.frame b u h nb nt
            refine st.frame b u h1 (fun z => ?_) nt
            rcases n.new b ((oA b).mp z) with w | w
            · rw [h] at w; cases w
            · exact nb w
          · obtain ⟨a1, a2, a3, a4⟩ := s1.st.lock i t h
            exact ⟨a1, a2, a3, fun b hb => ((nF' i b (by rw [a3]; exact hb)).1).trans (a4 b hb)⟩
          · obtain ⟨a1, a2, a3⟩ := s1.un i hi
            exact ⟨a1, a2, fun b hb => ((nF' i b (by rw [a2]; exact hb)).1).trans (a3 b hb)⟩
          · rcases n'.new b hb with w | w
            · exact (E1.there ho).1 w
            · exact n.out b ((oA b).mp w) ho
        · cases q
end
end VL

end

section
set_option Elab.async false
set_option linter.all false
set_option maxRecDepth 100000
/-! sorted(d), d an owned dict whose keys are ints -/
namespace VL
open PySem PySem.Spec PyProof.Rows L2
section
variable {X : Cx} {T T1 T2 : List Nat} {W : WV} {K : Fg} {pos : Pos}
def rSortDI : List V → Hp → VK → Prop := fun xs H Q => ∃ (a : Addr) (kvs : List (Key × V)) (ks : List Int), xs = [.ref a] ∧ Rd H a (.dK kvs) ∧ kvs.map (·.1) = ks.map Sum.inl ∧
    ∀ (ys : List Int) (p : Addr), ys.Perm ks → ys.Pairwise (· ≤ ·) → H p = none → Q (.ref p) (upd H p (.lst (ys.map V.int)))
theorem cr_sortDI (hcalm : X.calm = true) : CallR X (.builtin "sorted") rSortDI := by
  intro pins s σ H xs us Q I r q
  obtain ⟨a, kvs, ks, ex, hd, hks, q⟩ := q
  subst ex
  obtain ⟨u, eu, rx⟩ := vals1 r
  subst eu
  cases rx
  obtain ⟨z, lo, vs, rel, dd⟩ := dk_rd I.hok hd
  obtain ⟨ep, hat⟩ := dd.dictAt
  have hkeys : vs.map (·.1) = ks.map Sum.inl := rel.keys.symm.trans hks
  have hl : vs.length = ks.length := by
    have e := congrArg List.length hkeys
    simpa using e
  have h16 : vs.length ≤ sizeLine := by rw [← rel.length]; exact z
  refine Calls.call_function_entry PyProof.Rows.kind_sorted PyProof.Rows.plain_sorted PyProof.Rows.entry_sorted (PyProof.Rows.args_sorted1 _) ?_
  unfold Builtin.«sorted»
  refine wpAny_bind (m := checkCount "sorted" 1 1 _) (wpAny_pure ?_)
  refine wpAny_bind (PySem.W.kdu_collect (A := X.A.in1) (PySem.W.kdl_dict (knd := mixKind X.prog X.w) (kvs := vs) (ep := ep) lo) (I.ok.hd hcalm) hat h16 fun h' tk acc hk hacc => ?_)
  have hal : acc.toList.length = ks.length := by rw [Array.length_toList, hacc.1, hl]
  have hS : IntsAre acc.toList ks := ints_each hal fun j v e => by
    obtain ⟨k, x, e1, e2⟩ := hacc.2 j v (by rw [← Array.getElem?_toList]; exact e)
    have e3 : (vs.map (·.1))[j]? = some k := by rw [List.getElem?_map, e1]; rfl
    rw [hkeys, List.getElem?_map] at e3
    cases e4 : ks[j]? with
    | none => rw [e4] at e3; cases e3
    | some y =>
      rw [e4] at e3
      have e5 : Sum.inl y = k := Option.some.inj e3
      subst e5
      rcases keyIs_shape (show keyIs (Sum.inl y) v = true from e2) with ⟨i, t, ek, ev⟩ | ⟨z, t, ek, ev⟩
      · cases ek
        exact ⟨y, t, rfl, ev⟩
      · cases ek
  have I1 : Inv X pins σ H { s with heap := h', toks := tk } := I.kept hk
  have hz : acc.toList.length ≤ sizeLine := by rw [hal, ← hl]; exact h16
  refine wpAny_bind (wpAny_newList ?_ hz)
  have hoL : (h'.push (seqObj "list" acc.toList.toArray 0)).get? h'.objs.size = some (seqObj "list" acc.toList.toArray 0) := Heap.get?_push_size _ rfl
  show wpAny _ _ _ _ _ { s with heap := h'.push (seqObj "list" acc.toList.toArray 0), toks := tk }
  refine wpAny_bind (wpAny_holding (wpAny_call_entry PyProof.Rows.slot_list_sort ⟨_, hoL, rfl⟩ PyProof.Rows.entry_list_sort
    (SrtO.list_sort_ord (s := { s with heap := h'.push (seqObj "list" acc.toList.toArray 0), toks := tk }) SrtO.swo_int hoL hz (fun h2 => SrtO.ints_sortable hS h2) fun out h1 h2 => ⟨_, rfl, ?_⟩) (PyProof.Rows.args_list_sort _)))
  obtain ⟨g1, g2, g3⟩ := SrtO.ints_out hS h1 h2
  obtain ⟨e', he'⟩ := PyProof.Rows.sortedHeap_at (vs := acc.toList) (out := out.toArray) hoL
  have hlen : ((out.map SrtO.iv).map V.int).length ≤ sizeLine := by
    rw [List.length_map, g2.length_eq, ← hl]
    exact h16
  refine wpAny_pure ⟨_, rfl, .ref h'.objs.size, upd H h'.objs.size (.lst ((out.map SrtO.iv).map V.int)), I1.laid (t' := tk) (fun b u e => ?_) (Nat.le_refl _)
    (show ObjOk X.prog X.w _ _ _ (.lst ((out.map SrtO.iv).map V.int)) from ⟨hlen, out, e', vals_of_ints g1, he'⟩), rfl, q _ _ g2 g3 (I1.hok.fresh (Nat.le_refl _))⟩
  have hb : b < h'.objs.size := Heap.lt_size e
  rw [PyProof.Rows.sortedHeap_old (Nat.ne_of_lt hb) (by rw [size_push']; exact Nat.lt_succ_of_lt hb)]
  exact Heap.get?_push_of_some _ e
def intKeys : List (Key × Tr) → Option (List Int)
  | [] => some []
  | (.inl i, _) :: r => (intKeys r).map (i :: ·)
  | _ :: _ => none
theorem intKeys_ok : ∀ {ts : List (Key × Tr)} {ks : List Int}, intKeys ts = some ks → ts.map (·.1) = ks.map Sum.inl
  | [], _, e => by simp only [intKeys] at e; cases e; rfl
  | (.inl i, t) :: r, _, e => by
    simp only [intKeys] at e
    obtain ⟨ks, e1, rfl⟩ := map_some e
    simp [intKeys_ok e1]
  | (.inr z, t) :: r, _, e => by simp [intKeys] at e
def sortI (ks : List Int) : List Int := ks.mergeSort fun a b => decide (a ≤ b)
theorem sortI_uniq {ys ks : List Int} (h1 : ys.Perm ks) (h2 : ys.Pairwise (· ≤ ·)) : ys = sortI ks := by
  have p : (sortI ks).Pairwise (· ≤ ·) := by
    have := List.pairwise_mergeSort (le := fun a b : Int => decide (a ≤ b)) (fun a b c h h' => by simp at h h' ⊢; omega) (fun a b => by simp; omega) ks
    exact this.imp fun h => of_decide_eq_true h
  exact List.Perm.eq_of_pairwise (fun a b _ _ h h' => Int.le_antisymm h h') h2 p (h1.trans (List.mergeSort_perm _ _).symm)
def cSortDI (f : M (Nat × List Nat)) : M Rv := bnd f fun r => fun ρ => match treeAt ρ r with
  | some (.dk kvs) => (match intKeys kvs with
    | some ks => some (.ok (.d (.list ((sortI ks).map .int))) ρ)
    | none => none)
  | _ => none
theorem dq_ints {F : Hp} : ∀ {ns : List Int}, DqAll K F (ns.map V.int) (ns.map .int)
  | [] => .nil
  | n :: ns => .cons (.int n) dq_ints
variable {e : Expr} {x : Str} {p : Pos} {fp1 : M (Nat × List Nat)}
theorem ve_sortDI (hcalm : X.calm = true) (hg : Gl X "sorted") (hm : X.mg "sorted" = none) (ha : VP X T W e fp1) (hs : starEach [e] X.env = (false, eval e X.env) :: starEach [] X.env := by rfl) (hpl : (backTo pos (starEach [] X.env)).any (·.1) = false := by rfl) :
    VE X T W (.Call (.Name "sorted" p) [e] [] pos) (cSortDI fp1) :=
  pe_imp (pe_callB (cr_sortDI hcalm) hg hm (by decide +kernel) (pa_cons ha pa_nil hs) (by decide) (by decide) hs hpl) fun σ H Q ⟨F, ρ, fp, o, E, q, P⟩ => by
    refine tv_bnd E q P (fun i hi => hi) fun r ρ1 v H1 F1 fp1 s1 r1 e1 P1 => ?_
    split at e1
    · rename_i kvs ht
      split at e1
      · rename_i ks hk
        cases ok_inj e1
        obtain ⟨B, qB, _⟩ := place_get s1.env r1 ht
        cases qB with
        | @dk a vs _ A h1 h2 h3 h4 =>
          refine ⟨a, vs, ks, rfl, .inl h1, h3.trans (intKeys_ok hk), fun ys p hp hy np => ?_⟩
          have e := sortI_uniq hp hy
          subst e
          exact P1 _ _ _ fp1 ((Grow.new _ s1.env.sub np).step s1.env) (.lst (.inl upd_same) dq_ints)
      · cases e1
    · cases e1
end
end VL

end

section
set_option Elab.async false
set_option linter.all false
set_option maxRecDepth 100000
/-! a dict is locked while an expression walks it -/
namespace VL
open PySem PySem.Spec PyProof.Rows L2
theorem mode_nb {ρ : Rho} {i : Nat} {m : Md} {t : Tr} (h : modeOk ρ i = true) (e : ρ[i]? = some (.own m t)) : plainSl (.own m t) = true := by
  unfold modeOk at h
  rw [e] at h
  cases m with
  | lock => cases h
  | bor _ => cases h
  | free => rfl
  | pin => rfl
/-- a slot's tree is put otherwise, objects of that tree alone are written -/
theorem al_set2 {K : Fg} {F H H' : Hp} {σ : Sg} {ρ : Rho} {fp : FP} {i : Nat} {s : Sl} (E : EnvOk K F H σ ρ fp) (hi : i < ρ.length) (hp : plainSl s = true) (hH : ∀ k, k ≠ i → ∀ b ∈ fp k, H' b = H b) : AlOk H' σ (ρ.set i s) := E.al' (fun j k p h => by
    by_cases hji : i = j
    · subst hji
      rw [List.getElem?_set_self hi] at h
      cases h
      cases hp
    · rw [List.getElem?_set_ne hji] at h
      exact ⟨h, rfl⟩) fun k p t h => by
    by_cases hji : i = k
    · subst hji
      rw [List.getElem?_set_self hi] at h
      cases h
      cases hp
    · rw [List.getElem?_set_ne hji] at h
      exact ⟨h, rfl, hH k (Ne.symm hji)⟩
theorem KT.upd {H : Hp} {d b : Addr} {o : HO} (h : KT (L2.upd H d o) b) (h1 : ∀ ks : List Key, o ≠ .tup (ks.map kV)) (h2 : ∀ ps, o ≠ .tbl ps) : KT H b := by
  unfold KT at h ⊢
  by_cases e : b = d
  · subst e
    rw [upd_same] at h
    rcases h with ⟨ks, h⟩ | ⟨ps, h⟩
    · exact absurd (Option.some.inj h) (h1 ks)
    · exact absurd (Option.some.inj h) (h2 ps)
  · rw [upd_ne e] at h
    exact h
section
variable {X : Cx} {T T1 T2 : List Nat} {W : WV} {K : Fg} {pos : Pos} {e : Expr}
def lockS (ρ : Rho) (i : Nat) : Option Rho := if modeOk ρ i then (match ρ[i]? with
  | some (.own _ (.dk ts)) => (match dats ts with
    | some ds => some (ρ.set i (.own .lock (.fk ds)))
    | none => none)
  | _ => none) else none
def nLock (i : Nat) (f : M Tr) : M Tr := fun ρ => match lockS ρ i with
  | some ρ1 => (match f ρ1 with
    | some (.ok t ρ2) => (match ρ[i]? with
      | some s => some (.ok t (ρ2.set i s))
      | none => none)
    | _ => none)
  | none => none
theorem vn_lock (i : Nat) {f : M Tr} (h : VN X T W0 e f) : VN X T W e (nLock i f) :=
  pe_imp (pe_lock h) fun σ H Q ⟨F, ρ, fp, ou, E, q, P⟩ => by
    unfold nLock at q
    cases hL : lockS ρ i with
    | none => rw [hL] at q; cases q
    | some ρ1 =>
      rw [hL] at q
      simp only at q
      unfold lockS at hL
      split at hL
      · rename_i hm
        split at hL
        · rename_i m ts hi
          split at hL
          · rename_i ds hds
            cases hL
            have hml := (mode_of (r := []) hm hi).1
            obtain ⟨u0, eu, tk⟩ := E.sl i _ hi
            have hil : i < ρ.length := (List.getElem?_eq_some_iff.mp hi).1
            generalize hA : fp i = A0 at tk
            cases tk with
            | @dk d vs _ A f1 f2 f3 f4 =>
              obtain ⟨hA0, pr⟩ := dats_ok f3 f4 hds
              subst hA0
              have hfp : fp i = [d] := hA
              have dI : ∀ j, j ≠ i → ∀ b ∈ fp j, b ≠ d := fun j hj b hb z => hj (E.ap j i b hb (by rw [hfp, z]; simp))
              refine ⟨d, .dK vs, f1, True.intro, fun od => ?_⟩
              have ne0 : ∀ b, b ≠ d → upd H d (.frz od (.dK vs)) b = H b := fun b hb => upd_ne hb
              have al1 : AlOk (upd H d (.frz od (.dK vs))) σ (ρ.set i (.own .lock (.fk ds))) := al_set2 E hil rfl fun k hk b hb => ne0 b (dI k hk b hb)
              have E1 : EnvOk X.K F (upd H d (.frz od (.dK vs))) σ (ρ.set i (.own .lock (.fk ds))) fp := by
                refine ⟨fun b o e => ?_, by rw [List.length_set]; exact E.len, fun j s hs => ?_, fun j hj => ?_, E.nd, E.ap, E.tb.upd (fun ps z => nomatch f1.symm.trans z), al1⟩
                · rw [ne0 b fun z => by rw [z, f2] at e; cases e]
                  exact E.sub b o e
                · by_cases hj : i = j
                  · subst hj
                    rw [List.getElem?_set_self hil] at hs
                    cases hs
                    rw [hfp]
                    exact ⟨_, eu, .fk upd_same f2 pr⟩
                  · rw [List.getElem?_set_ne hj] at hs
                    have z := E.sl j s hs
                    cases s with
                    | no => trivial
                    | al _ _ => trivial
                    | val d => exact z
                    | own m t =>
                      obtain ⟨w, e1, e2⟩ := z
                      exact ⟨w, e1, e2.move (Same.refl _) fun b hb => ⟨ne0 b (dI j (Ne.symm hj) b hb), (e2.mem b hb).2⟩⟩
                · by_cases hji : i = j
                  · subst hji
                    exact absurd (List.getElem?_set_self hil) (hj .lock (.fk ds))
                  · refine E.nil j fun m t z => hj m t ?_
                    rw [List.getElem?_set_ne hji]; exact z
              cases hf : f (ρ.set i (.own .lock (.fk ds))) with
              | none => rw [hf] at q; cases q
              | some r =>
                rw [hf] at q
                cases r with
                | ex c ρ2 => cases q
                | ok t ρ2 =>
                  simp only [hi] at q
                  cases ok_inj q
                  refine ⟨F, _, fp, _, E1, hf, fun v H' F' fp' s ⟨A, n⟩ => ?_⟩
                  obtain ⟨_, l2, l3, l4⟩ := s.st.lock i _ (List.getElem?_set_self hil)
                  have hd' : H' d = some (.frz od (.dK vs)) := (l4 d (by rw [hfp]; simp)).trans upd_same
                  have hfp' : fp' i = [d] := l3.trans hfp
                  have nFd : F' d = none := by
                    obtain ⟨_, _, z⟩ := s.env.sl i _ l2
                    exact (z.mem d (by rw [hfp']; simp)).2
                  refine ⟨hd', ?_⟩
                  have dI' : ∀ j, j ≠ i → ∀ b ∈ fp' j, b ≠ d := fun j hj b hb z => hj (s.env.ap j i b hb (by rw [hfp', z]; simp))
                  have hil2 : i < ρ2.length := (List.getElem?_eq_some_iff.mp l2).1
                  have h1n : ∀ b, upd H d (.frz od (.dK vs)) b = none → H b = none := fun b hb => by
                    by_cases z : b = d
                    · rw [z, upd_same] at hb; cases hb
                    · rw [ne0 b z] at hb; exact hb
                  have al2 : AlOk (upd H' d (.dK vs)) σ (ρ2.set i (.own m (.dk ts))) := al_set2 s.env hil2 (by have := mode_nb hm hi; cases m <;> first | rfl | cases this) fun k hk b hb => upd_ne (dI' k hk b hb)
                  have E2 : EnvOk X.K F' (upd H' d (.dK vs)) σ (ρ2.set i (.own m (.dk ts))) fp' := by
                    refine ⟨fun b o e => ?_, by rw [List.length_set]; exact s.env.len, fun j sl hs => ?_, fun j hj => ?_, s.env.nd, s.env.ap, s.env.tb.upd (fun ps z => nomatch hd'.symm.trans z), al2⟩
                    · rw [upd_ne fun z => by rw [z, nFd] at e; cases e]
                      exact s.env.sub b o e
                    · by_cases hj : i = j
                      · subst hj
                        rw [List.getElem?_set_self hil2] at hs
                        cases hs
                        rw [hfp']
                        exact ⟨_, eu, .dk upd_same nFd f3 (f4.move s.st.fr fun b hb => nomatch hb)⟩
                      · rw [List.getElem?_set_ne hj] at hs
                        have z := s.env.sl j sl hs
                        cases sl with
                        | no => trivial
                        | al _ _ => trivial
                        | val d => exact z
                        | own m t =>
                          obtain ⟨w, e1, e2⟩ := z
                          exact ⟨w, e1, e2.move (Same.refl _) fun b hb => ⟨upd_ne (dI' j (Ne.symm hj) b hb), (e2.mem b hb).2⟩⟩
                    · by_cases hji : i = j
                      · subst hji
                        exact absurd (List.getElem?_set_self hil2) (hj m (.dk ts))
                      · refine s.env.nil j fun m t z => hj m t ?_
                        rw [List.getElem?_set_ne hji]; exact z
                  have nA : ∀ b ∈ A, b ≠ d := fun b hb z => n.out b hb ⟨i, by rw [hfp', z]; simp⟩
                  refine P v (upd H' d (.dK vs)) F' fp' ⟨⟨E2, s.st.fr, fun b h h' => (s.st.nf b h h').imp (h1n b) (Or.imp_right fun z => z.upd (fun _ z => nomatch z) (fun _ z => nomatch z)), fun b hb => ?_, fun b o hb hn nt => ?_, fun b hb => (s.st.own b hb).imp_right (h1n b), fun j mj t hj hmj => ?_, fun j t hj => ?_⟩, fun j mj tj hj => ?_, fun j hj => ?_⟩
                    ⟨A, n.ok.move (Same.refl _) fun b hb => ⟨upd_ne (nA b hb), (n.ok.mem b hb).2⟩, n.nd, fun b hb => (n.new b hb).imp_left (h1n b), n.out⟩
                  · by_cases z : b = d
                    · rw [z, upd_same] at hb; cases hb
                    · rw [upd_ne z] at hb; exact h1n b (s.st.dom b hb)
                  · have z : b ≠ d := fun z => hn ⟨i, by rw [hfp, z]; simp⟩
                    rw [upd_ne z]
                    exact s.st.frame b o ((ne0 b z).trans hb) hn nt
                  · by_cases hji : i = j
                    · subst hji
                      rw [hi] at hj; cases hj
                      exact ⟨rfl, _, _, List.getElem?_set_self hil2, hmj⟩
                    · obtain ⟨a1, m', t', a2, a3⟩ := s.st.pin j mj t (by rw [List.getElem?_set_ne hji]; exact hj) hmj
                      exact ⟨a1, m', t', by rw [List.getElem?_set_ne hji]; exact a2, a3⟩
                  · have hji : i ≠ j := fun z => by subst z; rw [hi] at hj; cases hj; exact hml rfl
                    obtain ⟨a1, a2, a3, a4⟩ := s.st.lock j t (by rw [List.getElem?_set_ne hji]; exact hj)
                    refine ⟨a1, by rw [List.getElem?_set_ne hji]; exact a2, a3, fun b hb => ?_⟩
                    have z := dI j (Ne.symm hji) b hb
                    rw [upd_ne z, a4 b hb, ne0 b z]
                  · by_cases hji : i = j
                    · subst hji
                      rw [hi] at hj; cases hj
                      exact ⟨_, List.getElem?_set_self hil2⟩
                    · obtain ⟨t', a⟩ := s.ko j mj tj (by rw [List.getElem?_set_ne hji]; exact hj)
                      exact ⟨t', by rw [List.getElem?_set_ne hji]; exact a⟩
                  · by_cases hji : i = j
                    · subst hji
                      refine ⟨(List.getElem?_set_self hil2).trans hi.symm, l3, fun b hb => ?_⟩
                      rw [hfp] at hb
                      rw [List.mem_singleton.mp hb, upd_same, f1]
                    · obtain ⟨a1, a2, a3⟩ := s.un j hj
                      refine ⟨by rw [List.getElem?_set_ne hji, a1, List.getElem?_set_ne hji], a2, fun b hb => ?_⟩
                      have z := dI j (Ne.symm hji) b hb
                      rw [upd_ne z, a3 b hb, ne0 b z]
          · cases hL
        · cases hL
      · cases hL
/-! the keys of a locked dict -/
def keyPD : Key → PyData
  | .inl i => .int i
  | .inr z => .str z
theorem keyPD_ok {F : Hp} {k : Key} : Dq K F (kV k) (keyPD k) := by
  cases k with
  | inl i => exact .int i
  | inr z => exact .str z
def iKeyF (i : Nat) : M (List PyData) := fun ρ => match ρ[i]? with
  | some (.own _ (.fk ds)) => some (.ok (ds.map fun kv => keyPD kv.1) ρ)
  | _ => none
theorem vis_keys (i : Nat) {tg : Expr} {x : Str} {pos : Pos} (hN : X.N[i]? = some x := by rfl) (hv : Vis X.env.scope x := by first | exact Or.inl rfl | exact Or.inr (Or.inl rfl) | exact Or.inr (Or.inr rfl)) (hd : (x == ("__debug__" : Str)) = false := by decide)
    (hcd : (x == ("__classdict__" : Str)) = false := by decide) : VIS X [i] [] W tg (.Name x pos) (iKeyF i) := by
  refine ⟨_, pi_keys (pe_var hN hv hd hcd), fun σ H R F ρ fp o E q P => ?_⟩
  unfold iKeyF at q
  split at q
  · rename_i m ds h
    cases q
    obtain ⟨u, hu, q⟩ := E.sl i _ h
    generalize hA : fp i = A at q
    cases q with
    | @fk a0 ob vs0 _ h1 h2 h3 =>
      have mem : a0 ∈ fp i := by rw [hA]; exact List.mem_cons_self
      have hl : vs0.length = ds.length := by
        have := congrArg List.length h3.1
        simpa using this
      have w0 := walk_keys (d := a0) (o := ob) (kvs := vs0)
      rw [hl, ← List.length_map (f := fun kv : Key × PyData => keyPD kv.1)] at w0
      refine ⟨_, sg_some.mp hu, a0, ob, rfl, .inl ⟨vs0, h1, P _ _ _ H F fp (.refl E) w0 (fun F2 H2 a b k => (k i (by simp) a0 mem).trans h1) fun j F2 H2 x H3 hi a b k y => ?_⟩⟩
      obtain ⟨rfl, kk, v, hy, rfl⟩ := y
      have e1 : (vs0.map (·.1))[j]? = some kk := by rw [List.getElem?_map, hy]; rfl
      rw [h3.1, List.getElem?_map] at e1
      obtain ⟨kv, e2, e3⟩ := Option.map_eq_some_iff.mp e1
      refine ⟨F2, keyPD kk, ?_, .refl b, keyPD_ok⟩
      rw [List.getElem?_map, e2, ← e3]
      rfl
  · cases q
end
end VL

end

section
set_option Elab.async false
set_option linter.all false
set_option maxRecDepth 100000
/-! max of a list of data; x or y where truth is of None or a tuple -/
namespace VL
open PySem PySem.Spec PyProof.Rows L2
section
variable {X : Cx} {T T1 T2 : List Nat} {W : WV} {K : Fg} {pos : Pos}
theorem maxD_mem : ∀ (xs : List PyData) (x : PyData), PySem.W.maxD x xs ∈ x :: xs
  | [], x => by simp [PySem.W.maxD]
  | y :: ys, x => by
    have ih := maxD_mem ys (if PySem.W.dataLt x y then y else x)
    show (ys.foldl (fun a y => if PySem.W.dataLt a y then y else a) (if PySem.W.dataLt x y then y else x)) ∈ _
    rcases List.mem_cons.mp ih with e | e
    · rw [show (ys.foldl (fun a y => if PySem.W.dataLt a y then y else a) (if PySem.W.dataLt x y then y else x)) = _ from e]
      split <;> simp
    · exact List.mem_cons_of_mem _ (List.mem_cons_of_mem _ e)
def rMaxT (K : Fg) : List V → Hp → VK → Prop := fun xs H Q => ∃ (a : Addr) (b0 : V × PyData) (bs : List (V × PyData)), xs = [.ref a] ∧ Rd H a (.lst ((b0 :: bs).map (·.1))) ∧ (∀ b ∈ b0 :: bs, Dp K H b.1 b.2) ∧ PyData.depthAll ((b0 :: bs).map (·.2)) ≤ 60 ∧ PySem.W.AlikeAll ((b0 :: bs).map (·.2)) ∧
  ∀ b ∈ b0 :: bs, b.2 = PySem.W.maxD b0.2 (bs.map (·.2)) → Q b.1 H
theorem cr_maxT (hcalm : X.calm = true) (hu : X.A.units + 65 < cLine) : CallR X (.builtin "max") (rMaxT X.K) := by
  intro pins s σ H xs us Q I r h
  obtain ⟨a, b0, bs, rfl, hs, hb, hdp, hal, q⟩ := h
  obtain ⟨its, rv, hl, hz⟩ := I.list (.inl hs)
  rw [Vals.ref1 r]
  obtain ⟨as, hr⟩ := PySem.W.each_readsAll (fun b : V × PyData => b.2) (each_reads I hb rv)
  refine PySem.W.max_list_data (x := b0.2) (xs := bs.map fun b : V × PyData => b.2) (I.ok.hd hcalm) hl.isList (show ReadsAll s.heap its.toArray.toList ((b0 :: bs).map (·.2)) as from hr) hal (by have : PyData.depthAll (b0.2 :: bs.map (·.2)) ≤ 60 := hdp; omega) fun i v h' tk cs hi rm kp => ?_
  obtain ⟨w, hw, rw'⟩ := vals_get rv (show its[i]? = some v by simpa using hi)
  rw [List.getElem?_map] at hw
  obtain ⟨b, hbi, rfl⟩ := Option.map_eq_some_iff.mp hw
  have hbm := List.mem_of_getElem? hbi
  obtain ⟨ds, rd⟩ := Dp.reads I _ _ _ (hb b hbm) rw'
  have e : b.2 = PySem.W.maxD b0.2 (bs.map (·.2)) := PySem.W.alike_unique _ _ _ _ _ (hal.1 _ (List.mem_map.mpr ⟨b, hbm, rfl⟩) _ (maxD_mem (bs.map (·.2)) b0.2)) (PySem.W.reads_keeps kp rd) rm
  exact ⟨b.1, H, I.kept (t' := tk) kp, rw', q b hbm e⟩
def nnone : PyData → Bool
  | .none => false
  | _ => true
def maxOk (ds : List PyData) : Bool := ds.all (fun d => ds.all fun e => PySem.W.alike d e) && ds.all nnone && decide (PyData.depthAll ds ≤ 60) && ds.all PyData.canLay0
def maxTD : List PyData → Option PyData
  | [.list (d :: ds)] => if maxOk (d :: ds) then some (PySem.W.maxD d ds) else none
  | _ => none
theorem ok_maxTD : CallOk K (rMaxT K) maxTD := by
  intro F H vs ds z Q s h e k
  unfold maxTD at e
  split at e
  · rename_i d ds
    cases h with
    | cons h t =>
      cases t
      split at e
      · rename_i hz
        cases e
        obtain ⟨a, us, rfl, h1, h2⟩ := h.list s
        cases h2 with
        | @cons v0 us _ _ h3 h4 =>
          have hl := dqAll_len h4
          unfold maxOk at hz
          simp only [Bool.and_eq_true] at hz
          obtain ⟨⟨⟨z1, z2⟩, z3⟩, z4⟩ := hz
          have m1 : (us.zip ds).map (·.1) = us := List.map_fst_zip (by omega)
          have m2 : (us.zip ds).map (·.2) = ds := List.map_snd_zip (by omega)
          have dq : ∀ b ∈ (v0, d) :: us.zip ds, Dq K F b.1 b.2 := fun b hb => by
            rcases List.mem_cons.mp hb with e | hb
            · subst e; exact h3
            · exact dqAll_zip h4 b hb
          have mem : ∀ b ∈ (v0, d) :: us.zip ds, b.2 ∈ d :: ds := fun b hb => by
            rcases List.mem_cons.mp hb with e | hb
            · subst e; simp
            · exact List.mem_cons_of_mem _ (List.of_mem_zip (show (b.1, b.2) ∈ us.zip ds from hb)).2
          refine ⟨a, (v0, d), us.zip ds, rfl, by rw [List.map_cons, m1]; exact h1, fun b hb => dq_dp _ _ (List.all_eq_true.mp z4 _ (mem b hb)) (dq_mono s _ _ (dq b hb)), by rw [List.map_cons, m2]; exact of_decide_eq_true z3, ?_, fun b hb e => ?_⟩
          · rw [List.map_cons, m2]
            exact ⟨fun x hx y hy => List.all_eq_true.mp (List.all_eq_true.mp z1 x hx) y hy, fun x hx e => by
              have := List.all_eq_true.mp z2 x hx
              rw [e] at this
              cases this⟩
          · rw [m2] at e
            have := dq b hb
            rw [e] at this
            exact k _ F H (.refl s) this
      · cases e
  · cases e
/-! ### x or y, x None or a tuple -/
def truD : PyData → Option Bool
  | .none => some false
  | .tuple xs => some (!xs.isEmpty)
  | _ => none
def cOrT (fa fb : M Rv) : M Rv := bnd fa fun x => fun ρ => match x with
  | .d d => (match truD d with
    | some true => some (.ok (.d d) ρ)
    | some false => fb ρ
    | none => none)
  | .o _ => none
variable {fa fb : M Rv} {a b : Expr} {rest : List Expr}
theorem ve_orT (ha : VE X T1 W a fa) (hb : VE X T2 W (.BoolOp .Or (b :: rest) pos) fb) : VE X (T1 ++ T2) W (.BoolOp .Or (a :: b :: rest) pos) (cOrT fa fb) :=
  pe_imp (pe_orT ha hb) fun σ H Q ⟨F, ρ, fp, o, E, q, P⟩ => by
    refine tv_bnd E q P (fun i hi => List.mem_append_left _ hi) fun x ρ1 v H1 F1 fp1 s1 r1 e1 P1 => ?_
    cases x with
    | o _ => cases e1
    | d d =>
      simp only at e1
      have r1 : Dq X.K F1 v d := r1
      cases d with
      | none =>
        cases r1
        refine ⟨false, rfl, ?_⟩
        · rw [if_neg Bool.false_ne_true]
          exact tv_cond s1.env e1 P1 fun i hi => List.mem_append_right _ hi
      | tuple xs =>
        cases r1 with
        | @tups a vs _ hs hd =>
          have hl := dqAll_len hd
          cases xs with
          | nil =>
            cases hd
            refine ⟨false, .inr (.inl ⟨[], (hs.mono s1.env.sub).sq, rfl⟩), ?_⟩
            · rw [if_neg Bool.false_ne_true]
              exact tv_cond s1.env e1 P1 fun i hi => List.mem_append_right _ hi
          | cons y ys =>
            refine ⟨true, .inr (.inl ⟨vs, (hs.mono s1.env.sub).sq, by cases vs with | nil => simp at hl | cons _ _ => rfl⟩), ?_⟩
            · rw [if_pos rfl]
              cases ok_inj e1
              exact P1 _ H1 F1 fp1 (.refl s1.env) (.tups hs hd)
      | _ => simp [truD] at e1
end
end VL

end

section
set_option Elab.async false
set_option linter.all false
set_option maxRecDepth 100000
/-! several new trees at once: displays of trees, a for over a display of trees -/
namespace VL
open PySem PySem.Spec PyProof.Rows L2
structure NewsOk (K : Fg) (H : Hp) (fp : FP) (F' H' : Hp) (fp' : FP) (vs : List V) (ts : List Tr) (A : List Addr) : Prop where
  ok : TrsOk K F' H' vs ts A
  nd : A.Nodup
  new : ∀ b ∈ A, H b = none ∨ Owns fp b
  out : ∀ b ∈ A, ¬ Owns fp' b
/-- objects out of the env's reach stay through a step -/
theorem step_off {K : Fg} {F H F1 H1 : Hp} {σ σ1 : Sg} {ρ ρ1 : Rho} {fp fp1 : FP} (s : Step K F H σ ρ fp F1 H1 σ1 ρ1 fp1) {A : List Addr} (hA : ∀ b ∈ A, H b ≠ none ∧ F b = none) (hK : ∀ b ∈ A, ¬ KT H b) (ho : ∀ b ∈ A, ¬ Owns fp b) :
    (∀ b ∈ A, H1 b = H b ∧ F1 b = none) ∧ ∀ b ∈ A, ¬ Owns fp1 b := by
  refine ⟨fun b hb => ⟨?_, ?_⟩, fun b hb h => ?_⟩
  · cases q : H b with
    | none => exact absurd q (hA b hb).1
    | some o => exact s.frame b o q (ho b hb) fun ps z => hK b hb (.inr ⟨ps, z ▸ q⟩)
  · cases q : F1 b with
    | none => rfl
    | some o =>
      rcases s.nf b (hA b hb).2 (by rw [q]; exact fun z => nomatch z) with z | z | z
      · exact absurd z (hA b hb).1
      · exact absurd z (ho b hb)
      · exact absurd z (hK b hb)
  · rcases s.own b h with z | z
    · exact ho b hb z
    · exact (hA b hb).1 z
theorem NewOk.keep {K : Fg} {H0 F H F1 H1 : Hp} {σ σ1 : Sg} {ρ ρ1 : Rho} {fp0 fp fp1 : FP} {v : V} {t : Tr} {A : List Addr} (n : NewOk K H0 fp0 F H fp v t A) (s : Step K F H σ ρ fp F1 H1 σ1 ρ1 fp1) : NewOk K H0 fp0 F1 H1 fp1 v t A := by
  obtain ⟨h1, h2⟩ := step_off s n.ok.mem n.ok.nkt n.out
  exact ⟨n.ok.move s.fr h1, n.nd, n.new, h2⟩
theorem NewsOk.keep {K : Fg} {H0 F H F1 H1 : Hp} {σ σ1 : Sg} {ρ ρ1 : Rho} {fp0 fp fp1 : FP} {v : List V} {t : List Tr} {A : List Addr} (n : NewsOk K H0 fp0 F H fp v t A) (s : Step K F H σ ρ fp F1 H1 σ1 ρ1 fp1) : NewsOk K H0 fp0 F1 H1 fp1 v t A := by
  obtain ⟨h1, h2⟩ := step_off s n.ok.mem n.ok.nkt n.out
  exact ⟨n.ok.move s.fr h1, n.nd, n.new, h2⟩
def rlNs (K : Fg) : Rl K (List Tr) (List V) := ⟨fun H fp F' H' fp' _ _ v t => ∃ A, NewsOk K H fp F' H' fp' v t A, fun e h => by
  obtain ⟨A, h⟩ := h
  refine ⟨A, h.ok, h.nd, fun b hb => ?_, h.out⟩
  rcases h.new b hb with z | z
  · exact .inl (e.st.dom b z)
  · exact (e.st.own b z).symm⟩
abbrev tVNs (K : Fg) (T : List Nat) (W : WV) (f : M (List Tr)) : TA := fun σ H Q => TVg T W (rlNs K) f σ H Q
def VNs (X : Cx) (T : List Nat) (W : WV) (es : List Expr) (f : M (List Tr)) : Prop := PA X es (tVNs X.K T W f)
def tNilM : M (List Tr) := ret []
def tConsM (f : M Tr) (g : M (List Tr)) : M (List Tr) := bnd f fun x => bnd g fun xs => ret (x :: xs)
section
variable {X : Cx} {T T1 T2 T3 : List Nat} {W : WV} {K : Fg} {fn : M Tr} {fs : M (List Tr)} {e : Expr} {es : List Expr} {pos : Pos}
theorem vns_nil : VNs X [] W [] tNilM := pa_imp pa_nil fun σ H Q ⟨F, ρ, fp, o, E, e, P⟩ => by
  cases ok_inj e
  exact P _ H F fp (.refl E) ⟨[], .nil, List.nodup_nil, (fun _ h => nomatch h), (fun _ h => nomatch h)⟩
theorem news_cons {H F1 H1 F2 H2 : Hp} {σ : Sg} {ρ1 ρ2 : Rho} {fp fp1 fp2 : FP} {v : V} {vs : List V} {t : Tr} {ts : List Tr} {A B : List Addr} (n1 : NewOk K H fp F1 H1 fp1 v t A) (s2 : EStep K T F1 H1 σ ρ1 fp1 F2 H2 ρ2 fp2) (n2 : NewsOk K H1 fp1 F2 H2 fp2 vs ts B)
    {F : Hp} {ρ : Rho} (s1 : EStep K T1 F H σ ρ fp F1 H1 ρ1 fp1) : NewsOk K H fp F2 H2 fp2 (v :: vs) (t :: ts) (A ++ B) := by
  have k1 := n1.keep s2.st
  refine ⟨.cons k1.ok n2.ok, ?_, fun b hb => ?_, fun b hb => ?_⟩
  · rw [List.nodup_append]
    refine ⟨k1.nd, n2.nd, fun a ha b hb e => ?_⟩
    subst e
    rcases n2.new a hb with z | z
    · exact (n1.ok.mem a ha).1 z
    · exact n1.out a ha z
  · rcases List.mem_append.mp hb with z | z
    · exact k1.new b z
    · rcases n2.new b z with q | q
      · exact .inl (s1.st.dom b q)
      · exact (s1.st.own b q).symm
  · rcases List.mem_append.mp hb with z | z
    · exact k1.out b z
    · exact n2.out b z
theorem vns_cons (ha : VN X T1 W e fn) (hb : VNs X T2 W es fs) (hs : starEach (e :: es) X.env = (false, eval e X.env) :: starEach es X.env := by rfl) : VNs X (T1 ++ T2) W (e :: es) (tConsM fn fs) :=
  pa_imp (pa_cons ha hb hs) fun σ H Q ⟨F, ρ, fp, o, E, e, P⟩ => by
    unfold tConsM bnd at e
    cases h1 : fn ρ with
    | none => rw [h1] at e; cases e
    | some r =>
      rw [h1] at e
      cases r with
      | ex c ρ1 =>
        cases e
        exact ⟨F, ρ, fp, _, E, h1, fun H1 F1 fp1 st => P H1 F1 fp1 (st.sub fun i hi => List.mem_append_left _ hi)⟩
      | ok t ρ1 =>
        refine ⟨F, ρ, fp, _, E, h1, fun v H1 F1 fp1 s1 ⟨A, n1⟩ => ?_⟩
        simp only at e
        cases h2 : fs ρ1 with
        | none => rw [h2] at e; cases e
        | some r2 =>
          rw [h2] at e
          cases r2 with
          | ex c ρ2 =>
            cases e
            exact ⟨F1, ρ1, fp1, _, s1.env, h2, fun H2 F2 fp2 s2 => P H2 F2 fp2 ((s1.sub fun i hi => List.mem_append_left _ hi).trans (s2.sub fun i hi => List.mem_append_right _ hi))⟩
          | ok ts ρ2 =>
            cases ok_inj e
            exact ⟨F1, ρ1, fp1, _, s1.env, h2, fun vs H2 F2 fp2 s2 ⟨B, n2⟩ => P _ H2 F2 fp2 ((s1.sub fun i hi => List.mem_append_left _ hi).trans (s2.sub fun i hi => List.mem_append_right _ hi)) ⟨_, news_cons n1 s2 n2 s1⟩⟩
/-- a new object above new trees -/
theorem news_lay {F H F1 H1 : Hp} {σ : Sg} {ρ ρ1 : Rho} {fp fp1 : FP} {vs : List V} {ts : List Tr} {A : List Addr} {p : Addr} {o : HO} (n : NewsOk K H fp F1 H1 fp1 vs ts A) (s1 : EStep K T F H σ ρ fp F1 H1 ρ1 fp1) (np : H1 p = none) :
    EStep K T F H σ ρ fp F1 (upd H1 p o) ρ1 fp1 ∧ TrsOk K F1 (upd H1 p o) vs ts A ∧ (p :: A).Nodup ∧ (∀ b ∈ p :: A, H b = none ∨ Owns fp b) ∧ ∀ b ∈ p :: A, ¬ Owns fp1 b := by
  have g := Grow.lay o s1.env.sub np
  have hne : ∀ b ∈ A, b ≠ p := fun b hb z => (n.ok.mem b hb).1 (by rw [z]; exact np)
  refine ⟨s1.trans (g.step s1.env), n.ok.move (Same.refl _) fun b hb => ⟨upd_ne (hne b hb), (n.ok.mem b hb).2⟩, List.nodup_cons.mpr ⟨fun h => hne p h rfl, n.nd⟩, fun b hb => ?_, fun b hb h => ?_⟩
  · rcases List.mem_cons.mp hb with z | z
    · rw [z]; exact .inl (s1.st.dom p np)
    · exact n.new b z
  · rcases List.mem_cons.mp hb with z | z
    · rw [z] at h; exact (s1.env.there h).1 np
    · exact n.out b z h
def isNode : Tr → Bool
  | .tup _ => true
  | .lst _ => true
  | .dk _ => true
  | .dt _ => true
  | .ins _ _ => true
  | _ => false
theorem node_ref {F H : Hp} {v : V} {t : Tr} {A : List Addr} (h : TrOk K F H v t A) (hn : isNode t = true) : ∃ a, v = .ref a := by
  cases h <;> first | exact ⟨_, rfl⟩ | cases hn
theorem nodes_no {F H : Hp} : ∀ {vs : List V} {ts : List Tr} {A : List Addr}, TrsOk K F H vs ts A → ts.any isNode = true → ∀ ks : List Key, vs ≠ ks.map kV
  | _, _, _, .nil, h, _ => by cases h
  | _, _, _, .cons q r, h, ks => by
    intro e
    rw [List.any_cons, Bool.or_eq_true] at h
    cases ks with
    | nil => cases e
    | cons k ks =>
      rw [List.map_cons] at e
      injection e with e1 e2
      rcases h with h | h
      · obtain ⟨a, rfl⟩ := node_ref q h
        cases k <;> cases e1
      · exact nodes_no r h ks e2
def nTupT (fs : M (List Tr)) : M Tr := bnd fs fun ts => fun ρ => if small ts.length && ts.any isNode then some (.ok (.tup ts) ρ) else none
def nLstT (fs : M (List Tr)) : M Tr := bnd fs fun ts => fun ρ => if small ts.length then some (.ok (.lst ts) ρ) else none
theorem vn_tupT {x1} (h : VNs X T W es fs) : VN X T W (.Tuple es x1 pos) (nTupT fs) := pe_imp (pe_tup h) fun σ H Q ⟨F, ρ, fp, o, E, e, P⟩ => by
  unfold nTupT bnd at e
  cases h1 : fs ρ with
  | none => rw [h1] at e; cases e
  | some r =>
    rw [h1] at e
    cases r with
    | ex c ρ1 => cases e; exact ⟨F, ρ, fp, _, E, h1, fun H1 F1 fp1 st => P H1 F1 fp1 st⟩
    | ok ts ρ1 =>
      simp only at e
      split at e
      · rename_i hz
        rw [Bool.and_eq_true] at hz
        cases ok_inj e
        refine ⟨F, ρ, fp, _, E, h1, fun vs H1 F1 fp1 s1 ⟨A, n⟩ => ⟨by rw [n.ok.len]; exact of_decide_eq_true hz.1, fun p np => ?_⟩⟩
        obtain ⟨s2, q1, q2, q3, q4⟩ := news_lay (o := .tup vs) n s1 np
        exact P _ _ _ fp1 s2 ⟨p :: A, .tup upd_same ⟨s1.env.sub.free np, nodes_no q1 hz.2⟩ q1, q2, q3, q4⟩
      · cases e
theorem vn_lstT (h : VNs X T W es fs) : VN X T W (.List es pos) (nLstT fs) := pe_imp (pe_lst h) fun σ H Q ⟨F, ρ, fp, o, E, e, P⟩ => by
  unfold nLstT bnd at e
  cases h1 : fs ρ with
  | none => rw [h1] at e; cases e
  | some r =>
    rw [h1] at e
    cases r with
    | ex c ρ1 => cases e; exact ⟨F, ρ, fp, _, E, h1, fun H1 F1 fp1 st => P H1 F1 fp1 st⟩
    | ok ts ρ1 =>
      simp only at e
      split at e
      · rename_i hz
        cases ok_inj e
        refine ⟨F, ρ, fp, _, E, h1, fun vs H1 F1 fp1 s1 ⟨A, n⟩ => ⟨by rw [n.ok.len]; exact of_decide_eq_true hz, fun p np => ?_⟩⟩
        obtain ⟨s2, q1, q2, q3, q4⟩ := news_lay (o := .lst vs) n s1 np
        exact P _ _ _ fp1 s2 ⟨p :: A, .lst upd_same (s1.env.sub.free np) q1, q2, q3, q4⟩
      · cases e
/-- behind a step: a value is stored -/
theorem set_stepW {F H F1 H1 : Hp} {σ σ1 : Sg} {ρ ρ1 ρ2 : Rho} {fp fp1 : FP} {i : Nat} {v : V} {s : Sl} {A : List Addr} (s1 : Step K F H σ ρ fp F1 H1 σ1 ρ1 fp1) (hset : setSl ρ1 i s = some ρ2) (hs : SlOk K F1 H1 (some v) A s) (hn : A.Nodup)
    (ho : ∀ b ∈ A, ¬ Owns fp1 b) (ha : isOwn s = false → A = []) (hw : ∀ b ∈ A, H b = none ∨ Owns fp b) (hp : plainSl s = true := by rfl) : Step K F H σ ρ fp F1 H1 (σ1.set i (some v)) ρ2 (fset fp1 i A) := by
  obtain ⟨rfl, hi, np, nl⟩ := setSl_some hset
  refine ⟨set_env s1.env hi hs hn ho ha hp, s1.fr, s1.nf, s1.dom, s1.frame, fun b hb => ?_, fun j m t hj hm => ?_, fun j t hj => ?_⟩
  · rcases hb.fset with z | z
    · exact (hw b z).symm
    · exact s1.own b z
  · obtain ⟨e1, m', t', h1, k1⟩ := s1.pin j m t hj hm
    have hji : i ≠ j := fun z => by subst z; rw [np m' t' h1] at k1; cases k1
    exact ⟨by rw [sg_set_ne hji]; exact e1, m', t', by rw [List.getElem?_set_ne hji]; exact h1, k1⟩
  · obtain ⟨e1, h1, f1, g1⟩ := s1.lock j t hj
    have hji : i ≠ j := fun z => by subst z; exact nl t h1
    refine ⟨by rw [sg_set_ne hji]; exact e1, by rw [List.getElem?_set_ne hji]; exact h1, ?_, g1⟩
    unfold fset
    rw [if_neg (Ne.symm hji)]
    exact f1
/-! ### for x in (trees) -/
def loopT (i : Nat) (body : MS) : List Tr → MS
  | [], ρ => some (.nx ρ)
  | t :: ts, ρ => match setSl ρ i (.own .free t) with
    | none => none
    | some ρ1 => match body ρ1 with
      | some (.nx ρ2) => loopT i body ts ρ2
      | some (.ct ρ2) => loopT i body ts ρ2
      | some (.bk ρ2) => some (.nx ρ2)
      | o => o
def sForT (fs : M (List Tr)) (i : Nat) (body : MS) : MS := sE fs fun ts => fun ρ => if small ts.length then loopT i body ts ρ else none
theorem trs_split {F H : Hp} : ∀ {vs : List V} {t : Tr} {ts : List Tr} {A : List Addr}, TrsOk K F H vs (t :: ts) A → ∃ v ws A1 A2, vs = v :: ws ∧ A = A1 ++ A2 ∧ TrOk K F H v t A1 ∧ TrsOk K F H ws ts A2
  | _, _, _, _, .cons q r => ⟨_, _, _, _, rfl, rfl, q, r⟩
theorem vs_forT {i : Nat} {x : Str} {px tp : Pos} {kk : Nat} {body : List Stmt} {g : MS} (hp : PassesOwn (model X.prog X.w) X.A X.env X.xe) (hc : X.calm = true) (hN : X.N.Nodup) (h : VNs X T W es fs) (hb : VSs X W body g)
    (hi : X.N[i]? = some x := by rfl) (hx : Loc X.env.scope x := by first | exact Or.inl rfl | exact Or.inr rfl) (hf : X.fn x = true ∨ X.env.scope.names.lookup x = some .local := by first | exact .inl rfl | exact .inr rfl | assumption)
    (hs : ∀ x, foldedSetIterable (.Tuple es kk tp) X.env x = pure x := by intro _; rfl) : VS X W (.For (.Name x px) (.Tuple es kk tp) body [] pos) (sForT fs i g) := by
  refine ps_imp (ps_for hp hc (pi_tup (pe_tup h)) (pg_name (i := i) hN hi hx hf) hb hs) fun D σ H ⟨F, ρ, fp, o, E, e, P⟩ => ?_
  unfold sForT sE at e
  cases h1 : fs ρ with
  | none => rw [h1] at e; cases e
  | some r =>
    rw [h1] at e
    cases r with
    | ex c ρ1 => cases e; exact ⟨F, ρ, fp, _, E, h1, fun H1 F1 fp1 st => P σ H1 F1 fp1 st.st⟩
    | ok ts ρ1 =>
      simp only at e
      split at e
      · rename_i hz
        refine ⟨F, ρ, fp, _, E, h1, fun vs H1 F1 fp1 s1 ⟨A, n⟩ => ⟨by rw [n.ok.len]; exact of_decide_eq_true hz, fun p np => ?_⟩⟩
        have g0 := Grow.new (F := F1) (.tup vs) s1.env.sub np
        have s2 : Step X.K F H σ ρ fp (upd F1 p (.tup vs)) (upd H1 p (.tup vs)) σ ρ1 fp1 := s1.st.trans (g0.step (T := []) s1.env).st
        have n2 : NewsOk X.K H fp (upd F1 p (.tup vs)) (upd H1 p (.tup vs)) fp1 vs ts A := n.keep (g0.step (T := []) s1.env).st
        have hl : vs.length = ts.length := n.ok.len
        refine ⟨p, rfl, ⟨vs, SqT.of upd_same⟩, for_it (walk_tup (K := X.K) (a := p) (xs := vs)) (fun k σ' H' => ∃ F' ρ' fp' A', Step X.K F H σ ρ fp F' H' σ' ρ' fp' ∧ Same (upd F1 p (.tup vs)) F' ∧ NewsOk X.K H fp F' H' fp' (vs.drop k) (ts.drop k) A' ∧ loopT i g (ts.drop k) ρ' = some o)
          ⟨_, ρ1, fp1, A, s2, Same.refl _, by rw [List.drop_zero, List.drop_zero]; exact n2, by rw [List.drop_zero]; exact e⟩
          (fun k σ' H' _ ⟨F', ρ', fp', A', s3, q, _⟩ => SqT.of (s3.env.sub _ _ (q _ _ upd_same))) (fun k x σ' H' H3 hk ⟨F', ρ', fp', A', s3, q, n3, e3⟩ y => ?_) fun σ' H' ⟨F', ρ', fp', A', s3, q, n3, e3⟩ => ?_⟩
        · obtain ⟨rfl, hx⟩ := y
          have hkt : k < ts.length := by omega
          have d1 : ts.drop k = ts[k] :: ts.drop (k + 1) := List.drop_eq_getElem_cons hkt
          have d2 : vs.drop k = x :: vs.drop (k + 1) := by
            obtain ⟨hk', hx'⟩ := List.getElem?_eq_some_iff.mp hx
            rw [List.drop_eq_getElem_cons hk', hx']
          rw [d1, d2] at n3
          rw [d1] at e3
          obtain ⟨ok3, nd3, new3, out3⟩ := n3
          obtain ⟨v, ws, A1, A2, ev, rfl, t1, t2⟩ := trs_split ok3
          cases ev
          have nd := List.nodup_append.mp nd3
          unfold loopT at e3
          split at e3
          · cases e3
          · rename_i ρ4 h4
            have s4 := set_stepW s3 h4 (v := x) (A := A1) ⟨x, rfl, t1⟩ nd.1 (fun b hb => out3 b (List.mem_append_left _ hb)) (fun z => by cases z) (fun b hb => new3 b (List.mem_append_left _ hb))
            have n4 : NewsOk X.K H fp F' H3 (fset fp' i A1) (vs.drop (k + 1)) (ts.drop (k + 1)) A2 := ⟨t2, nd.2.1, fun b hb => new3 b (List.mem_append_right _ hb), fun b hb h => by
              rcases h.fset with z | z
              · exact nd.2.2 b z b hb rfl
              · exact out3 b (List.mem_append_right _ hb) z⟩
            have go : ∀ {ρ5 : Rho} {σ6 : Sg} {H6 F6 : Hp} {fp6 : FP}, loopT i g (ts.drop (k + 1)) ρ5 = some o → Step X.K F' H3 (σ'.set i (some x)) ρ4 (fset fp' i A1) F6 H6 σ6 ρ5 fp6 → ∃ F' ρ' fp' A', Step X.K F H σ ρ fp F' H6 σ6 ρ' fp' ∧ Same (upd F1 p (.tup vs)) F' ∧ NewsOk X.K H fp F' H6 fp' (vs.drop (k + 1)) (ts.drop (k + 1)) A' ∧ loopT i g (ts.drop (k + 1)) ρ' = some o :=
              fun {ρ5 σ6 H6 F6 fp6} e5 s6 => ⟨F6, ρ5, fp6, A2, s4.trans s6, q.trans s6.fr, n4.keep s6, e5⟩
            show tS X.K W g _ (σ'.set i (some x)) H3
            split at e3
            · rename_i ρ5 h5
              exact ⟨F', ρ4, _, _, s4.env, h5, fun σ6 H6 F6 fp6 s6 => go e3 s6⟩
            · rename_i ρ5 h5
              exact ⟨F', ρ4, _, _, s4.env, h5, fun σ6 H6 F6 fp6 s6 => go e3 s6⟩
            · rename_i ρ5 h5
              cases e3
              exact ⟨F', ρ4, _, _, s4.env, h5, fun σ6 H6 F6 fp6 s6 => P σ6 H6 F6 fp6 (s4.trans s6)⟩
            · rename_i h1' h2' h3'
              refine ⟨F', ρ4, _, _, s4.env, e3, ?_⟩
              cases o with
              | nx ρ5 => exact absurd e3 (h1' ρ5)
              | ct ρ5 => exact absurd e3 (h2' ρ5)
              | bk ρ5 => exact absurd e3 (h3' ρ5)
              | rt t ρ5 => exact fun v A σ6 H6 F6 fp6 s6 n => P v A σ6 H6 F6 fp6 (s4.trans s6) (n.back s4)
              | ex c ρ5 => exact fun σ6 H6 F6 fp6 s6 => P σ6 H6 F6 fp6 (s4.trans s6)
        · rw [hl, List.drop_length] at e3
          cases (Option.some.inj e3)
          exact P σ' H' F' fp' s3
      · cases e
end
end VL

end

section
set_option Elab.async false
set_option linter.all false
set_option maxRecDepth 100000
/-! max of two data -/
namespace VL
open PySem PySem.Spec PyProof.Rows L2
section
variable {P : Program} {w : World} {A : Around} {E : Value → Shared → Prop} {s : Shared}
/-- max(a, b), of alike data -/
theorem max_two_data {u v : Value} {x y : PyData} {as bs : List Addr} {Q : Value → Shared → Prop} (hh : A.handled = none) (hu1 : Reads s.heap u x as) (hv1 : Reads s.heap v y bs) (ha : PySem.W.AlikeAll [x, y]) (hu : A.units + 1 + PyData.depthAll [x, y] < cLine)
    (h : ∀ h' tk, (∀ b o, s.heap.get? b = some o → h'.get? b = some o) → Q (if PySem.W.dataLt x y then v else u) { s with heap := h', toks := tk }) :
    wpAny (model P w) A (call (.builtin "max") [u, v]) Q E s := by
  have hname : (toString "max" ++ toString ".loop" : String) = "max.loop" := by decide
  refine call_function_tree F.kind_max F.plain_max F.entry_max (F.args_max2 _ _) ?_
  show wpAny _ A.in1 (Builtin.Builtins.bindParams "max" ["key", "default"] 0 ⟨[], []⟩ >>= _) _ _ s
  refine wpAny_bind (wpAny_of_eq (show Builtin.Builtins.bindParams "max" ["key", "default"] 0 ⟨[], []⟩ = pure [none, none] from rfl) ?_)
  show wpAny _ A.in1 (newTuple [u, v] >>= _) _ _ s
  refine wpAny_bind (wpAny_newObj_type ?_)
  generalize hs1 : ({ s with heap := s.heap.push { cls := .type "tuple", data := .seq #[u, v] } } : Shared) = s1
  have kp : ∀ b o, s.heap.get? b = some o → s1.heap.get? b = some o := fun b o e => by rw [← hs1]; exact Heap.get?_push_of_some _ e
  have hT : s1.heap.IsTuple s.heap.objs.size #[u, v] := by rw [← hs1]; exact ⟨_, Heap.get?_push_size _ rfl, rfl, 0, rfl⟩
  have hr : ReadsAll s1.heap (#[u, v] : Array Value).toList [x, y] (as ++ (bs ++ [])) := .cons (PySem.W.reads_keeps kp hu1) (.cons (PySem.W.reads_keeps kp hv1) .nil)
  refine wpAny_bind ?_
  refine PySem.W.iter_tupleW (A := A.in1) hh hT fun s₂ e W st hfp hw hk => ?_
  refine wpAny_bind (wpAny_newObj_type ?_)
  have hSf : s₂.heap.objs.size ∉ [s1.heap.objs.size, s.heap.objs.size] := fun hm => Nat.lt_irrefl _ (hfp _ hm)
  rw [hname]
  refine wpAny_pure ⟨plainId_quiet F.plain_max_loop _, codeAny_max_loop_firstH W s1.heap hw _ (PySem.W.cmpIn_gt (A := A.in1) hr ha (by show A.units + 1 + _ < _; exact hu)) s₂.heap.objs.size hSf (fresh_in hk) _ (by exact Nat.zero_lt_succ _) (fun b o e => Heap.get?_push_of_some _ (hk b o e)) (W.frame 0 s₂ _ s₂.toks st (Nat.le_refl _) fun b _ o e => Heap.get?_push_of_some _ e) (Heap.get?_push_size _ rfl) fun z s' hP hm => ?_⟩
  obtain ⟨h', tk, rfl, hk'⟩ := PySem.W.moved_old e rfl (Moved.drop_new (tk := s₂.toks) hm (Nat.le_refl _))
  have e2 := (PySem.W.argBest_fold (fun a b => PySem.W.dataLt b a) PyData.none x [y] 1 (Nat.le_refl _)).2
  have hz : z = if PySem.W.dataLt x y then v else u := by
    by_cases hlt : PySem.W.dataLt x y = true
    · have eb : argBest (fun i j => PySem.W.dataLt ([x, y].getD j .none) ([x, y].getD i .none)) 1 = 1 := by simp [argBest, hlt]
      have hP' : (#[u, v] : Array Value)[argBest (fun i j => PySem.W.dataLt ([x, y].getD j .none) ([x, y].getD i .none)) 1]? = some z := hP
      rw [eb] at hP'
      rw [if_pos hlt]
      simpa using hP'.symm
    · have eb : argBest (fun i j => PySem.W.dataLt ([x, y].getD j .none) ([x, y].getD i .none)) 1 = 0 := by simp [argBest, hlt]
      have hP' : (#[u, v] : Array Value)[argBest (fun i j => PySem.W.dataLt ([x, y].getD j .none) ([x, y].getD i .none)) 1]? = some z := hP
      rw [eb] at hP'
      rw [if_neg hlt]
      simpa using hP'.symm
  subst hz
  rw [← hs1] at hk' ⊢
  exact h h' tk fun b o e => hk' b o (Heap.get?_push_of_some _ e)
end
section
variable {X : Cx} {T T1 T2 : List Nat} {W : WV} {K : Fg} {pos : Pos}
/-- max(a, b), of data -/
def rMax2T (K : Fg) : List V → Hp → VK → Prop := fun xs H Q => ∃ (u v : V) (x y : PyData), xs = [u, v] ∧ Dp K H u x ∧ Dp K H v y ∧ PyData.depthAll [x, y] ≤ 60 ∧ PySem.W.AlikeAll [x, y] ∧ Q (if PySem.W.dataLt x y then v else u) H
theorem cr_max2T (hcalm : X.calm = true) (hu : X.A.units + 65 < cLine) : CallR X (.builtin "max") (rMax2T X.K) := by
  intro pins s σ H xs us Q I r h
  obtain ⟨u, v, x, y, rfl, hx, hy, hd, ha, q⟩ := h
  obtain ⟨u', v', rfl, r1, r2⟩ := vals2 r
  obtain ⟨as, ra⟩ := Dp.reads I _ _ _ hx r1
  obtain ⟨bs, rb⟩ := Dp.reads I _ _ _ hy r2
  refine max_two_data (I.ok.hd hcalm) ra rb ha (by omega) fun h' tk k => ⟨_, H, I.kept (t' := tk) k, ?_, q⟩
  split
  · exact r2
  · exact r1
def max2TD : List PyData → Option PyData
  | [.tuple x, .tuple y] => if maxOk [.tuple x, .tuple y] then some (if PySem.W.dataLt (.tuple x) (.tuple y) then .tuple y else .tuple x) else none
  | _ => none
theorem ok_max2TD : CallOk K (rMax2T K) max2TD := by
  intro F H vs ds z Q s h e k
  unfold max2TD at e
  split at e
  · rename_i x y
    cases h with
    | cons h1 t =>
      cases t with
      | cons h2 t =>
        cases t
        split at e
        · rename_i hz
          cases e
          unfold maxOk at hz
          simp only [Bool.and_eq_true] at hz
          obtain ⟨⟨⟨z1, z2⟩, z3⟩, z4⟩ := hz
          have c1 : (PyData.tuple x).canLay0 = true := List.all_eq_true.mp z4 _ (by simp)
          have c2 : (PyData.tuple y).canLay0 = true := List.all_eq_true.mp z4 _ (by simp)
          refine ⟨_, _, .tuple x, .tuple y, rfl, dq_dp _ _ c1 (h1.dp s), dq_dp _ _ c2 (h2.dp s), of_decide_eq_true z3, ?_, ?_⟩
          · exact ⟨fun x hx y hy => List.all_eq_true.mp (List.all_eq_true.mp z1 x hx) y hy, fun x hx e => by
              have := List.all_eq_true.mp z2 x hx
              rw [e] at this
              cases this⟩
          · obtain ⟨_, _, _, _, _, d1⟩ := h1.tup s
            obtain ⟨_, _, _, _, _, d2⟩ := h2.tup s
            refine k _ F H (.refl s) ?_
            split
            · exact d2
            · exact d1
        · cases e
  · cases e
end
end VL

end

section
set_option Elab.async false
set_option linter.all false
set_option maxRecDepth 100000
set_option maxHeartbeats 2000000
/-! within an except suite's call: a comprehension over range; isinstance of the caught error -/
namespace VLH
open PySem PySem.Spec PyProof.Rows L2 HotX L2H
section
variable {X : Cx}
theorem lc_coreH {pins : List (Addr × Obj)} {s : Shared} {σ : L2.St} {H : Hp} {Q : VK} {elt tg iter : Expr} {ifs : List Expr} {scope : Scope} {own : List (Str × Nat)} {pos pos' : Pos} {wi : TI} {g : TG} {tt : TT} {te : TE} {use : Option (Value → Sem Unit)} {Qf : Value → Shared → Prop}
    (hc : HotC X) (hN : X.N.Nodup) (I : Inv X pins σ H s) (hi : PIH X tg iter wi) (ok : BlkOk X.N X.env.scope scope own)
    (hg : ∀ (s : Shared) (H : Hp) (C : Addr) (cl : List (Str × Addr)) (fp : List Addr), PG (X.blk s H scope (compEnvC scope cl C X.env) fp) tg g) (ht : ∀ (s : Shared) (H : Hp) (C : Addr) (cl : List (Str × Addr)) (fp : List Addr), PTs (X.blk s H scope (compEnvC scope cl C X.env) fp) ifs tt)
    (he : ∀ (s : Shared) (H : Hp) (C : Addr) (cl : List (Str × Addr)) (fp : List Addr), PE (X.blk s H scope (compEnvC scope cl C X.env) fp) elt te) (hs : ∀ x, foldedSetIterable iter X.env x = pure x)
    (h : tLc wi g tt te (own.map (·.2)) σ H Q)
    (hRR : ∀ D C s' m H', Inv X pins σ H' s' → Q (.ref D) H' → s'.heap.Ns C m → FpOk X pins H' C → compPost (model X.prog X.w) X.A X.xe use Qf (.ref D) C (.ok .next) s') :
    wpAny (model X.prog X.w) X.A (comprehension (.ListComp elt [⟨tg, iter, ifs, 0⟩] scope pos) scope X.env pos' (newList []) false (eval iter X.env) use) Qf X.xe s := by
  obtain ⟨p0, hot0, hp0⟩ := hc
  have hfree : ∀ y ∈ scope.names, y.2 = .free → ∃ c, X.env.cells.lookup y.1 = some c := fun y hy e => (ok.free y hy e).elim (fun k => I.ok.has _ (.inl k)) fun k => I.ok.has _ (.inr k)
  refine wpAny_comprehension_free (use := use) rfl hs (closure_ok hfree) ok.kind (fun y hy e => by rw [ok.uniq y hy, e]) (thn (hi.run pins s σ H _ I h) fun xv s1 hx => thn hx fun itv s2 h2 => ?_)
  obtain ⟨it, fp, tn, J, H2, e, I2, T, st2, f2, q⟩ := h2
  subst e
  refine wpAny_newObj_type (newEnv_comp ?_) (by show 0 ≤ sizeLine; decide)
  generalize hD : s2.heap.objs.size = D
  have hDn : H2 D = none := I2.hok.fresh (Nat.le_of_eq hD)
  obtain ⟨W, ⟨m0, w0⟩, turn⟩ := q D hDn
  generalize hs3 : ({ s2 with heap := s2.heap.push { cls := .type "list", data := .seq ([] : List Value).toArray } } : Shared) = s3
  have h3 : s3.heap = s2.heap.push { cls := .type "list", data := .seq ([] : List Value).toArray } := by rw [← hs3]
  have I3 : Inv X pins σ (upd H2 D (.lst [])) s3 := by
    rw [← hs3]
    refine I2.laid (t' := s2.toks) (fun b o e => Heap.get?_push_of_some _ e) (Nat.le_of_eq hD) ⟨Nat.zero_le _, [], 0, .nil, ?_⟩
    rw [← hD]
    exact Heap.get?_push_size _ rfl
  have f3 : ∀ b ∈ fp, FpOk X pins (upd H2 D (.lst [])) b ∧ b < s3.heap.objs.size := fun b hb => by
    obtain ⟨o, e, _⟩ := T.obj _ _ st2 b hb
    have hlt := Heap.lt_size e
    refine ⟨⟨?_, (f2 b hb).2⟩, by rw [h3, Heap.size_push]; exact Nat.lt_succ_of_lt hlt⟩
    rw [upd_ne (by rw [← hD]; exact Nat.ne_of_lt hlt)]
    exact (f2 b hb).1
  have st3 : tn 0 s3.heap := T.keep _ _ _ st2 fun b _ o e => by rw [h3]; exact Heap.get?_push_of_some _ e
  have I4 := block_start I3 ok hN f3
  have pg := hg s3 (upd H2 D (.lst [])) s3.heap.objs.size (cellsFrom (s3.heap.objs.size + 1) scope.names (cloFrom X.env.cells scope.names [])) fp
  have pt := ht s3 (upd H2 D (.lst [])) s3.heap.objs.size (cellsFrom (s3.heap.objs.size + 1) scope.names (cloFrom X.env.cells scope.names [])) fp
  have pe := he s3 (upd H2 D (.lst [])) s3.heap.objs.size (cellsFrom (s3.heap.objs.size + 1) scope.names (cloFrom X.env.cells scope.names [])) fp
  show codeAny _ _ (.compStart (.ListComp elt [⟨tg, iter, ifs, 0⟩] scope pos) 0 (.ref it) (.ref D) (compEnvC scope (cellsFrom (s3.heap.objs.size + 1) scope.names (cloFrom X.env.cells scope.names [])) s3.heap.objs.size X.env)) (compPost (model X.prog X.w) X.A X.xe use Qf (.ref D) s3.heap.objs.size) { s3 with heap := pushCells (s3.heap.push { cls := .type "dict", data := .dict #[] }) scope.names }
  have nfp : ∀ b ∈ fp, (upd H2 D (.lst [])) b = none := fun b hb => (f3 b hb).1.1
  generalize hce : compEnvC scope (cellsFrom (s3.heap.objs.size + 1) scope.names (cloFrom X.env.cells scope.names [])) s3.heap.objs.size X.env = ce at I4 pg pt pe ⊢
  have cL : ce.locals = s3.heap.objs.size := by subst hce; rfl
  generalize hH3 : upd H2 D (.lst []) = H3 at I3 I4 pg pt pe w0 nfp f3
  generalize hs4 : ({ s3 with heap := pushCells (s3.heap.push { cls := .type "dict", data := .dict #[] }) scope.names } : Shared) = s4 at I4 ⊢
  have k34 : ∀ b o, s3.heap.get? b = some o → s4.heap.get? b = some o := fun b o e => by rw [← hs4]; exact pushCells_keeps _ _ _ _ (Heap.get?_push_of_some _ e)
  have st4 : tn 0 s4.heap := T.keep _ _ _ st3 fun b _ o e => k34 b o e
  -- the error that is handled stays in sight
  have P0 := I3.pin p0 (List.mem_append_left _ hp0)
  have I4p : Inv (X.blk s3 H3 scope ce fp) [p0] (wipe σ (own.map (·.2))) H3 s4 := I4.pins_of fun p hp => by
    have ep : p = p0 := by simpa using hp
    subst ep
    refine ⟨k34 _ _ P0.1, P0.2.1, ?_, fun hm => ?_, P0.2.2.2.2⟩
    · show p.1 ≠ ce.locals
      rw [cL]
      exact Nat.ne_of_lt (Heap.lt_size P0.1)
    · exact (List.mem_cons.mp (I3.stkSub p.1 hm)).elim P0.2.2.1 P0.2.2.2.1
  have stat : ∀ {σ' : L2.St} {H' : Hp} {s' : Shared}, Inv (X.blk s3 H3 scope ce fp) [p0] σ' H' s' → (∀ b ∈ fp, H' b = none) → ∀ b ∈ fp, FpOk (X.blk s3 H3 scope ce fp) [p0] H' b := fun {σ' H' s'} I' hn b hb =>
    ⟨hn b hb, (I'.ok.exf b hb).1, I'.ok.exfs b hb, .inl hb, fun x c e => (I'.ok.exf b hb).2 x c e, fun p hp => by
      have ep : p = p0 := by simpa using (show p ∈ ([] : List (Addr × Obj)) ++ [p0] from hp)
      rw [ep]
      exact (f3 b hb).1.2.2.2.2.2 p0 (List.mem_append_left _ hp0)⟩
  have statT : ∀ {σ' : L2.St} {H' : Hp} {s' : Shared}, Inv (X.blk s3 H3 scope ce fp) [p0] σ' H' s' → (∀ b ∈ fp, H' b = none) → ∀ b ∈ fp, FpOk ((X.blk s3 H3 scope ce fp).tr ([] ++ [p0]) (fun _ _ => False)) [] H' b := fun {σ' H' s'} I' hn b hb => by
    obtain ⟨a1, a2, a3, a4, a5, a6⟩ := stat I' hn b hb
    exact ⟨a1, a2, a3, a4, a5, fun p hp => a6 p (by rw [List.append_nil] at hp; exact hp)⟩
  have hotT : HotC ((X.blk s3 H3 scope ce fp).tr ([] ++ [p0]) (fun _ _ => False)) := ⟨p0, hot0, List.mem_append_right _ List.mem_cons_self⟩
  have loop : codeAny (model X.prog X.w) X.A (.compLoop (.ListComp elt [⟨tg, iter, ifs, 0⟩] scope pos) 0 (.ref it) (.ref D) ce) (compPost (model X.prog X.w) X.A X.xe use Qf (.ref D) s3.heap.objs.size) s4 := by
    refine compLoop_any (fun n s' => ∃ i H', Inv (X.blk s3 H3 scope ce fp) [p0] (wipe σ (own.map (·.2))) H' s' ∧ tn i s'.heap ∧ (∀ b ∈ fp, H' b = none) ∧ W i n H') ?_ m0 ⟨0, H3, I4p, st4, nfp, w0⟩
    rintro n s5 ⟨i, H5, I5, st5, n5, w5⟩
    rcases turn i n H5 w5 with ⟨stop, qq⟩ | ⟨go, Nx, hNx, step⟩
    · have td := T.done ((X.blk s3 H3 scope ce fp).tr ([] ++ [p0]) (fun _ _ => False)) rfl rfl rfl hotT i [] s5 _ H5 (fun _ _ => False) (I5.toTry _) (statT I5 n5) st5 stop
      refine thnF td fun r s6 ⟨hr, I6'⟩ => ?_
      subst hr
      have I6 : Inv (X.blk s3 H3 scope ce fp) [p0] (wipe σ (own.map (·.2))) H5 s6 := I6'.ofTry I5.ok
      have I7 : Inv X pins σ H5 s6 := I3.call' (ch := fp) I6.os I6.base I6.hok I6.bare fun b hb => ⟨(f3 b hb).1.2.2.2.1, (f3 b hb).1.2.1, (f3 b hb).1.2.2.2.2.1, (f3 b hb).1.2.2.2.2.2⟩
      have nC : H5 s3.heap.objs.size = none := by
        have z : H5 ce.locals = none := I6.free
        rw [cL] at z
        exact z
      obtain ⟨m, hn, _⟩ := I6.loc
      have hn : s6.heap.Ns ce.locals m := hn
      rw [cL] at hn
      exact hRR D s3.heap.objs.size s6 m H5 I7 qq hn (I3.fpOk (Nat.le_refl _) nC)
    · have ti := T.item ((X.blk s3 H3 scope ce fp).tr ([] ++ [p0]) (fun _ _ => False)) rfl rfl rfl hotT i [] s5 _ H5 (fun _ _ => False) (I5.toTry _) (statT I5 n5) st5 go
      refine thnF ti fun r s6 ⟨u, hr, h6⟩ => ?_
      subst hr
      refine thnF h6 fun _ s7 ⟨x, H7, I7', r7, y7, st7, n7⟩ => ?_
      have I7 : Inv (X.blk s3 H3 scope ce fp) [p0] (wipe σ (own.map (·.2))) H7 s7 := I7'.ofTry I5.ok
      have J7 := I7.pinned (stat I7 n7) (T.obj _ _ st7)
      refine thnF (pg.run _ s7 _ H7 x u _ J7 r7 (step x H7 y7)) fun _ s8 ⟨σ8, H8, I8, hw8, q8⟩ => ?_
      refine thnF (pt.run _ s8 σ8 H8 _ I8 q8) fun b s9 ⟨H9, I9, q9⟩ => ?_
      have fin : ∀ {s' : Shared} {H' : Hp}, Inv (X.blk s3 H3 scope ce fp) ([p0] ++ pinsAt fp s7.heap) σ8 H' s' → Nx H' → ∃ m, m < n ∧ ∃ i H', Inv (X.blk s3 H3 scope ce fp) [p0] (wipe σ (own.map (·.2))) H' s' ∧ tn i s'.heap ∧ (∀ b ∈ fp, H' b = none) ∧ W i m H' := fun {s' H'} I' nx => by
        obtain ⟨m', hm, w'⟩ := hNx H' nx
        have pin' : ∀ b ∈ fp, ∀ o, s7.heap.get? b = some o → s'.heap.get? b = some o ∧ H' b = none := fun b hb o e =>
          let z := I'.pin (b, o) (List.mem_append_right _ (List.mem_append_right _ (mem_pinsAt hb e)))
          ⟨z.1, z.2.1⟩
        have hl : (wipe σ (own.map (·.2))).length = σ8.length := by rw [← hw8, wipe_length]
        refine ⟨m', hm, i + 1, H', (I'.unpinned (pins := [p0])).weak hl (fun j v e => ?_), T.keep _ _ _ st7 fun b hb o e => (pin' b hb o e).1, fun b hb => ?_, w'⟩
        · rw [← hw8] at e
          exact (wipe_some e).1
        · obtain ⟨o, e, _⟩ := T.obj _ _ st7 b hb
          exact (pin' b hb o e).2
      cases b with
      | false =>
        simp only [Bool.false_eq_true, if_false] at q9 ⊢
        exact fin I9 q9
      | true =>
        simp only [if_true] at q9 ⊢
        refine thnF (pe.run _ s9 σ8 H9 _ I9 q9) fun z s10 ⟨yv, H10, I10, r10, acc, hD10, hz10, nx⟩ => ?_
        exact L2.app_ok (X := X.blk s3 H3 scope ce fp) I10 hD10 hz10 r10 fun s11 I11 => fin I11 nx
  exact codeAny_compStart_list loop (T.self X.A 0 _ _ _ st4 loop)
theorem pe_lcH {elt tg iter : Expr} {ifs : List Expr} {scope : Scope} {own : List (Str × Nat)} {pos : Pos} {wi : TI} {g : TG} {tt : TT} {te : TE} (hc : HotC X) (hN : X.N.Nodup) (hi : PIH X tg iter wi) (ok : BlkOk X.N X.env.scope scope own)
    (hg : ∀ (s : Shared) (H : Hp) (C : Addr) (cl : List (Str × Addr)) (fp : List Addr), PG (X.blk s H scope (compEnvC scope cl C X.env) fp) tg g) (ht : ∀ (s : Shared) (H : Hp) (C : Addr) (cl : List (Str × Addr)) (fp : List Addr), PTs (X.blk s H scope (compEnvC scope cl C X.env) fp) ifs tt)
    (he : ∀ (s : Shared) (H : Hp) (C : Addr) (cl : List (Str × Addr)) (fp : List Addr), PE (X.blk s H scope (compEnvC scope cl C X.env) fp) elt te) (hs : ∀ x, foldedSetIterable iter X.env x = pure x := by intro _; rfl) :
    PE X (.ListComp elt [⟨tg, iter, ifs, 0⟩] scope pos) (tLc wi g tt te (own.map (·.2))) := by
  refine ⟨fun pins s σ H Q I h => ?_⟩
  rw [eval_ListComp]
  refine lc_coreH hc hN I hi ok hg ht he hs h fun D C s' m H' I' q hn f => ⟨m, hn, fun h'' sb => ?_⟩
  obtain ⟨f0, f1, f2, f3, f4, f5⟩ := f
  exact ⟨.ref D, H', I'.turned (t' := s'.toks) (fun b o hb e => (sb.2 b hb).trans e) f0 f1 f3 f4 f5, rfl, q⟩
/-- isinstance(e, c), e an exception that is pinned -/
theorem call_isP {a D : Addr} {oe : Obj} (C : ExcC X.K D) (hz : Zc (.ref D) none oe) (hf : ∃ vs, oe.data = .fields vs) (hp : (a, oe) ∈ X.pn) : CallR X (.builtin "isinstance") (rIsE X.K D a) := by
  intro pins s σ H xs us Q I r h
  obtain ⟨c, cv, b, rfl, hcv, e, q⟩ := h
  cases r with
  | cons rx rr =>
    cases rr with
    | cons rt rr =>
      cases rr
      cases rx
      have ec := hcv _ rt
      subst ec
      obtain ⟨hget, _⟩ := I.pin (a, oe) (List.mem_append_left _ hp)
      obtain ⟨vs, hv⟩ := hf
      have J : PySem.W.InstAt s.heap a oe D none := by
        obtain ⟨oc, od, oda, osl⟩ := oe
        obtain ⟨h1, h2⟩ := hz
        dsimp only at h1 h2 hv
        subst h1 h2 hv
        exact ⟨hget, rfl, rfl, trivial⟩
      exact PySem.W.kia_one (PySem.W.handS_kitx_exc C.hg C.hk C.hs C.hd C.ha C.hn C.ht C.hm) I.kIn J e (fun z => nomatch z) fun tk => ⟨.bl b, H, I.kept (t' := tk) fun _ _ z => z, rfl, q⟩
end
/-! a def that is handed the error that is handled -/
structure FnE (P : Program) (w : World) (K : PySem.W.Frag) (mg : Str → Option Value) (base : Heap) (k : Nat) (f : Addr) (fd : FuncData) (ps : List Str) (sp : Addr → Addr → Sp) : Prop where
  len : ∀ a D vs H Q E, sp a D vs H Q E → vs.length = ps.length
  run : ∀ (A : Around) (outer : List Env) (s : Shared) (H : Hp) (args : Args) (us : List Value) (vs : List V) (Q : VK) (E : XK) (p : Addr × Obj) (D : Addr), RoomH k A → Hot1 A p → PinOk outer H s p → Zc (.ref D) none p.2 → Env0 P w K mg base A outer s H → BindsTo s fd args (ps.zip us) → Vals vs us → sp p.1 D vs H Q E →
    codeAny (model P w) A (.call (.ref f) args) (CR CX0 outer P w H s Q E) s
theorem fn_ofE {P : Program} {w : World} {K : PySem.W.Frag} {mg : Str → Option Value} {base : Heap} {k : Nat} {f : Addr} {fd : FuncData} {x qual : Str} {st : Stmt} {N ps : List Str} {sp : Addr → Addr → Sp} (F : Fun K x qual st f fd) (S : FnScope N ps (defScope st))
    (len : ∀ a D vs H Q E, sp a D vs H Q E → vs.length = ps.length)
    (hbody : ∀ (cdv : Value) (A : Around) (outer : List Env) (s : Shared) (H : Hp) (vs : List V) (Q : VK) (E : XK) (p : Addr × Obj) (D : Addr), Hot1 A p → Zc (.ref D) none p.2 → RoomH k (A.deeper (envOfC qual (defScope st) s.heap.objs.size f cdv)) → sp p.1 D vs H Q E →
      ∃ t, PSs (cxH CX0 P w K mg base N qual (defScope st) f cdv A outer s H E p) (defBody st) t ∧ t { nx := fun _ H' => Q .non H', rt := Q } (L2.start N vs) H) :
    FnE P w K mg base (k + 1) f fd ps sp := by
  obtain ⟨oc, od, kV, doc, pm, an, cdv, ct, osl, rfl, lk, hcd⟩ := F.ex
  refine ⟨len, fun A outer s H args us vs Q E p D hr hot hpin hz e0 hb r hsp => ?_⟩
  have hl := len _ _ _ _ _ _ hsp
  have KX : K.In s.heap := e0.mod.kin.keeps fun b o e => (e0.bs b o e).1
  have lim : s.heap.NoLimit := e0.mod.nolimit.keeps fun b o e => (e0.bs b o e).1
  have hkind : ∀ y ∈ ps.zip us, (defScope st).names.lookup y.1 = some .local ∨ ((defScope st).names.lookup y.1 = some .cell ∧ ((cellsFrom (s.heap.objs.size + 1) (defScope st).names []).lookup y.1).isSome = true) := fun ⟨n, v⟩ hy =>
    (S.par n (List.of_mem_zip hy).1).elim .inl fun q => .inr ⟨q, PySem.W.cellsFrom_some _ _ _ (.inl q)⟩
  refine codeAny_call_function hr.depth (KX _ _ lk) rfl S.co S.gen rfl (PySem.W.codeRec_of KX hcd) (hb _ _ _ _ ?_)
  refine wpAny_newFunctionEnv_cells S.kind hkind fun env he s1 x => ?_
  subst he
  refine ⟨lim.keeps x.toInCall.keep, codeAny_func ?_⟩
  obtain ⟨t, ht, hq⟩ := hbody cdv A outer s H vs Q E p D hot hz (hr.deeper _) hsp
  have I : Inv (cxH CX0 P w K mg base N qual (defScope st) f cdv A outer s H E p) [] (L2.start N vs) H s1 := inv_startH S hpin e0 hl r x
  refine wpAny_mono (ht.run [] s1 (L2.start N vs) H _ I hq) (fun fl s' hs => ?_) fun e s' hs => hs
  have fin : ∀ {σ' : L2.St} {H' : Hp} {v : V} {u : Value}, Inv (cxH CX0 P w K mg base N qual (defScope st) f cdv A outer s H E p) [] σ' H' s' → RelV v u → Q v H' → CE outer P w H s Q u s' :=
    fun {σ' H' v u} J rv q => ⟨v, H', J.os, J.bare, J.base, J.hok, rv, q⟩
  cases fl with
  | ret u =>
    obtain ⟨v, σ', H', J, rv, q⟩ := hs
    exact fin J rv q
  | next =>
    obtain ⟨σ', H', J, q⟩ := hs
    exact fin (v := V.non) (u := Value.none) J rfl q
  | brk =>
    obtain ⟨_, _, _, q⟩ := hs
    exact False.elim q
  | cont =>
    obtain ⟨_, _, _, q⟩ := hs
    exact False.elim q
/-- f(e), e the error that is handled, in its suite -/
theorem pe_callE {X : Cx} {k : Nat} {f a D : Addr} {oe : Obj} {fd : FuncData} {ps : List Str} {sp : Addr → Addr → Sp} {E : XK} {x : Str} {q pos : Pos} {e : Expr} {t : TA} (F : FnE X.prog X.w X.K X.mg X.base k f fd ps sp) (hr : RoomH k X.A) (hot : Hot1 X.A (a, oe)) (hp : (a, oe) ∈ X.pn) (hz : Zc (.ref D) none oe)
    (hg : Gl X x) (hm : X.mg x = some (.ref f)) (hk : PySem.W.keepIn X.K (.ref f) = true) (hb : Binds X.K fd ps [])
    (ha : PA X [e] t) (hdb : (x == ("__debug__" : Str)) = false := by decide) (he : starEach [e] X.env = (false, eval e X.env) :: starEach [] X.env := by rfl) (hpl : (backTo pos (starEach [] X.env)).any (·.1) = false := by rfl) :
    PE X (.Call (.Name x q) [e] [] pos) (fun σ H Q => t σ H fun vs H1 => sp a D vs H1 Q E) := by
  refine ⟨fun pins s σ H Q I h => ?_⟩
  refine wpAny_Call_Name_kw (ld_glob I hg hm ?_ hdb)
  refine PySem.W.callWith_K (h₀ := X.base) I.ok.mod.kin hk (thn (ha.run pos pins s σ H _ I h) fun us s1 ⟨vs, H1, I1, r, h1⟩ => ⟨I1.kIn, ?_⟩) he hpl
  have hl : us.length = ps.length := by rw [← r.length]; exact F.len _ _ _ _ _ _ h1
  have b := hb s1 us I1.kIn (by rw [List.append_nil]; exact hl)
  rw [List.append_nil] at b
  have P1 := I1.pin (a, oe) (List.mem_append_left _ hp)
  have hpin : PinOk X.stack H1 s1 (a, oe) := ⟨P1.1, P1.2.1, fun hm => (List.mem_cons.mp (I1.stkSub a hm)).elim P1.2.2.1 P1.2.2.2.1, P1.2.2.2.2⟩
  refine wpAny_call (codeAny_mono (F.run X.A X.stack s1 H1 ⟨us, []⟩ us vs Q E (a, oe) D hr hot hpin hz I1.env0 b r h1) fun r s' hq => ?_)
  cases r with
  | error e => exact hq.elim
  | ok fl =>
    cases fl with
    | ret u => exact I1.after hq
    | next => exact False.elim hq
    | brk => exact False.elim hq
    | cont => exact False.elim hq
end VLH

end

section
set_option Elab.async false
set_option linter.all false
set_option maxRecDepth 100000
set_option maxHeartbeats 2000000
/-! exceptions: raise, calls that may raise, defs that may raise, try .. except HallError as e: kind = _law_kinds(e) -/
namespace VL
open PySem PySem.Spec PyProof.Rows L2
/-- a def's exception: of class c, by its name -/
def WxR (mg : Str → Option Value) : WX0 := fun c E H => ∀ cls, mg c = some cls → E cls none H
def toWX (mg : Str → Option Value) (W : WV) : WX := fun cls d σ H => d = none ∧ ∃ c, mg c = some cls ∧ W c σ H
def TakesV (X : Cx) (W : WV) : Prop := L2N.Takes X (toWX X.mg W)
theorem takesV0 {X : Cx} : TakesV X W0 := fun u s' ⟨_, _, _, _, _, _, _, _, _, _, _, _, _, _, _, _, h⟩ => by
  obtain ⟨_, _, _, h⟩ := h
  exact h.elim
theorem takesN0 {X : Cx} : L2N.Takes X (fun _ _ _ _ => False) := fun u s' ⟨_, _, _, _, _, _, _, _, _, _, _, _, _, _, _, _, h⟩ => h.elim
section
variable {P : Program} {w : World} {K : PySem.W.Frag} {mg : Str → Option Value} {base : Heap}
/-- THE RULE for a def that may raise -/
theorem fn_okR {x qual : Str} {st : Stmt} {f : Addr} {fd : FuncData} {N ps : List Str} {k : Nat} {g : MS} (F : Fun K x qual st f fd) (S : FnScope N ps (defScope st))
    (hb : ∀ (cdv : Value) (A : Around) (outer : List Env) (s : Shared) (H : Hp) (E : XK), Room k (A.deeper (envOfC qual (defScope st) s.heap.objs.size f cdv)) →
      TakesV (cxOf (L2N.CX P w) P w K mg base N qual (defScope st) f cdv A outer s H E) (fun c _ H' => WxR mg c E H') →
      PassesOwn (model P w) (cxOf (L2N.CX P w) P w K mg base N qual (defScope st) f cdv A outer s H E).A (cxOf (L2N.CX P w) P w K mg base N qual (defScope st) f cdv A outer s H E).env (cxOf (L2N.CX P w) P w K mg base N qual (defScope st) f cdv A outer s H E).xe →
      VSs (cxOf (L2N.CX P w) P w K mg base N qual (defScope st) f cdv A outer s H E) (fun c _ H' => WxR mg c E H') (defBody st) g) :
    FnOk P w K mg base (L2N.CX P w) (k + 1) f fd ps (spV K (WxR mg) ps.length (runF N.length g)) := by
  obtain ⟨oc, od, kV, doc, pm, an, cdv, ct, osl, rfl, lk, hcd⟩ := F.ex
  refine fn_of lk hcd S (fun vs H Q E h => h.1) fun A outer s H vs Q E hr hsp => ?_
  have tk : L2N.Takes (cxOf (L2N.CX P w) P w K mg base N qual (defScope st) f cdv A outer s H E) (fun cls d _ H => E cls d H) := L2N.takes_of rfl rfl rfl rfl
  exact ⟨_, hb cdv A outer s H E hr (tk.imp fun cls d σ H' ⟨hd, c, hc, h⟩ => by subst hd; exact h cls hc) (L2.passes_of (K := fun e s'' => L2N.CX P w outer H s E e s'') (E₁ := fun e' s'' => L2N.CX P w outer H s E e' s'') rfl), run_ok (CX := L2N.CX P w) (x := x) (qual := qual) (f := f) (sc := defScope st) (cdv := cdv) (A := A) (outer := outer) (s := s) hsp⟩
end
/-! ### calls -/
def callR (Ts : List Nat) (m : Nat) (f : Fn) (rs : List Rv) : M Tr := fun ρ => match argSls ρ rs with
  | some args => if decide (rs.length = m) && (oneEach rs && allIn Ts rs) then (match f args with
    | some (.ret t, outs) => if backOk args (mrg args outs) then some (.ok t (wb ρ rs (mrg args outs))) else none
    | some (.exc c, outs) => if backOk args (mrg args outs) then some (.ex c (wb ρ rs (mrg args outs))) else none
    | none => none) else none
  | none => none
def nCallR (Ts : List Nat) (m : Nat) (f : Fn) (fs : M (List Rv)) : M Tr := bnd fs (callR Ts m f)
section
variable {X : Cx} {T : List Nat} {W : WV} {k m : Nat} {f : Addr} {fd : FuncData} {ps : List Str} {F : Fn} {x : Str} {p pos : Pos} {e : Expr} {es : List Expr} {fs : M (List Rv)} {Ts : List Nat}
/-- what the callee is asked, by callR -/
theorem callR_sp {F1 H1 : Hp} {σ : Sg} {ρ1 : Rho} {fp1 : FP} {rs : List Rv} {vs : List V} {o : Er Tr} {Q : VK} (s1 : EnvOk X.K F1 H1 σ ρ1 fp1) (r1 : RvsOk X.K F1 σ ρ1 vs rs) (e1 : callR Ts m F rs ρ1 = some o) (P1 : Pst (T ++ Ts) W (rlN X.K) F1 H1 σ ρ1 fp1 Q o) :
    spV X.K (WxR X.mg) m F vs H1 Q (WE (toWX X.mg W) σ) := by
  unfold callR at e1
  split at e1
  · rename_i args hargs
    split at e1
    · rename_i ho
      rw [Bool.and_eq_true, Bool.and_eq_true] at ho
      have hl : vs.length = m := by rw [rvs_len r1]; exact of_decide_eq_true ho.1
      split at e1
      · rename_i t outs hf
        split at e1
        · rename_i hbk
          cases ok_inj e1
          refine ⟨hl, F1, args, fpArgs rs fp1, _, outs, args_env s1 r1 hargs ho.2.1, hf, fun v A H' F' fp' st n => ?_⟩
          have s2 := call_step (Ts := Ts) s1 r1 hargs ho.2.1 ho.2.2 st fun k m t h => backOk_get hbk h
          exact P1 v H' F' _ (s2.sub fun i hi => List.mem_append_right _ hi) ⟨A, call_new s1 ho.2.1 n⟩
        · cases e1
      · rename_i c outs hf
        split at e1
        · rename_i hbk
          cases (Option.some.inj e1)
          refine ⟨hl, F1, args, fpArgs rs fp1, _, outs, args_env s1 r1 hargs ho.2.1, hf, fun H' F' fp' st cls hcls => ?_⟩
          have s2 := call_step (Ts := Ts) s1 r1 hargs ho.2.1 ho.2.2 st fun k m t h => backOk_get hbk h
          exact ⟨rfl, c, hcls, P1 H' F' _ (s2.sub fun i hi => List.mem_append_right _ hi)⟩
        · cases e1
      · cases e1
    · cases e1
  · cases e1
theorem vn_callR (G : FnOk X.prog X.w X.K X.mg X.base (L2N.CX X.prog X.w) k f fd ps (spV X.K (WxR X.mg) m F)) (hr : Room k X.A) (tk : TakesV X W) (hg : Gl X x) (hm : X.mg x = some (.ref f)) (hk : PySem.W.keepIn X.K (.ref f) = true) (hb : Binds X.K fd ps [])
    (ha : VA X T W (e :: es) fs) (hdb : (x == ("__debug__" : Str)) = false := by decide) (he : starEach (e :: es) X.env = (false, eval e X.env) :: starEach es X.env := by rfl) (hpl : (backTo pos (starEach es X.env)).any (·.1) = false := by rfl) :
    VN X (T ++ Ts) W (.Call (.Name x p) (e :: es) [] pos) (nCallR Ts m F fs) :=
  pe_imp (pe_callS G hr hg hm hk hb (fun σ => L2N.passAt tk σ) ha hdb he hpl) fun σ H Q ⟨F0, ρ, fp, o, E, q, P⟩ => by
    refine tv_bnd (T := T) E q P (fun i hi => List.mem_append_left _ hi) fun rs ρ1 vs H1 F1 fp1 s1 r1 e1 P1 => ?_
    exact callR_sp s1.env r1 e1 P1
/-! ### raise -/
def sRaise (c : Str) : MS := fun ρ => some (.ex c ρ)
/-- what is asked of an own error class -/
def excB (K : PySem.W.Frag) (cs : List Addr) (C : Addr) : Bool :=
  PySem.W.excIn K C [.type "ValueError", .type "Exception", .type "BaseException", .type "object"] "ValueError.__new__" && PySem.W.keepIn K (.ref C) &&
  ((PySem.W.subIn K (.ref C) (.type "BaseException") == some true) && (PySem.W.typeIn K (.ref C) == some (.type "type"))) &&
  ((PySem.W.findIn K (.ref C) "__getattribute__" == some (some (.builtin "BaseException.__getattribute__"))) && (PySem.W.findIn K (.ref C) "__getattr__" == some none)) &&
  (PySem.W.hasDictIn K C && (PySem.W.findIn K (.ref C) "__class__" == some (some (.builtin "object.__class__")))) &&
  ((PySem.W.specialIn K (.builtin "object.__class__") "__get__" == some (some (.builtin "getset_descriptor.__get__"))) && (PySem.W.takesIn K (.builtin "object.__class__") == some true)) &&
  ((PySem.W.mroIn K C (.type "object") == some true) && (PySem.W.kitOne K (.ref C) (.type "ValueError") == some true)) &&
  cs.all (fun D => PySem.W.kitOne K (.ref C) (.ref D) == some (C == D))
structure ExcF (K : PySem.W.Frag) (cs : List Addr) (C : Addr) : Prop where
  ex : PySem.W.excIn K C [.type "ValueError", .type "Exception", .type "BaseException", .type "object"] "ValueError.__new__" = true
  kp : PySem.W.keepIn K (.ref C) = true
  sb : PySem.W.subIn K (.ref C) (.type "BaseException") = some true
  ty : PySem.W.typeIn K (.ref C) = some (.type "type")
  c : ExcC K C
  ve : PySem.W.kitOne K (.ref C) (.type "ValueError") = some true
  ds : ∀ D ∈ cs, PySem.W.kitOne K (.ref C) (.ref D) = some (C == D)
theorem excF_of {K : PySem.W.Frag} {cs : List Addr} {C : Addr} (h : excB K cs C = true) : ExcF K cs C := by
  unfold excB at h
  simp only [Bool.and_eq_true, beq_iff_eq, List.all_eq_true] at h
  obtain ⟨⟨⟨⟨⟨⟨⟨h1, h2⟩, h3, h4⟩, h5, h6⟩, h7, h8⟩, h9, h10⟩, h11, h12⟩, h13⟩ := h
  exact ⟨h1, h2, h3, h4, ⟨h5, h6, h3, h7, h8, h9, h10, h11⟩, h12, h13⟩
theorem vs_raise {c m : Str} {j : Nat} {p1 p2 p3 : Pos} {C : Addr} {cs : List Addr} (hc : X.calm = true) (tk : TakesV X W) (F : ExcF X.K cs C) (gC : X.mg x = some (.ref C)) (hg : Gl X x) (hx : x = c) (hdb : (x == ("__debug__" : Str)) = false := by decide) :
    VS X W (.Raise (some (.Call (.Name x p1) [.Constant (.str m) j p2] [] p3)) none pos) (sRaise c) :=
  ps_imp (L2N.ps_raise hc tk (L2N.pmk_own PySem.F.excBase_ValueError F.ex gC F.kp (raises_own F.sb F.ty) hg hdb)) fun D σ H ⟨F0, ρ, fp, o, E, q, P⟩ => by
    cases (Option.some.inj q)
    subst hx
    exact ⟨rfl, x, gC, P σ H F0 fp (.refl E)⟩
/-! ### sep.join(list of texts) -/
def strsD : List PyData → Option (List Str)
  | [] => some []
  | .str s :: ds => (strsD ds).map (s :: ·)
  | _ :: _ => none
theorem strs_ok {K : Fg} {F : Hp} : ∀ {vs : List V} {ds : List PyData} {ss : List Str}, DqAll K F vs ds → strsD ds = some ss → vs = ss.map V.str
  | _, _, _, .nil, e => by simp only [strsD] at e; cases e; rfl
  | _, d :: ds, _, .cons h t, e => by
    cases d <;> simp only [strsD] at e <;> try (cases e; done)
    obtain ⟨ss, e1, rfl⟩ := map_some e
    cases h
    rw [strs_ok t e1]
    rfl
def join1 (x y : Rv) : M Rv := fun ρ => match derS ρ x, derS ρ y with
  | some (.str a), some (.list ds) => (match strsD ds with
    | some ss => if (ss.map (·.length)).sum + ss.length * a.length ≤ 16777216 then some (.ok (.d (.str (Txt.join a ss))) ρ) else none
    | none => none)
  | _, _ => none
def cJoin (f g : M Rv) : M Rv := bnd f fun x => fun ρ => match x with
  | .d (.str a) => bnd g (join1 x) ρ
  | _ => none
theorem ve_join {T1 T2 : List Nat} {o : Expr} {fo fe : M Rv} {apos cpos : Pos} (ho : VE X T1 W o fo) (he : VE X T2 W e fe) (hs : starEach [e] X.env = [(false, eval e X.env)] := by rfl) (hbase : attributeBase o "join" X.env (eval o X.env) = eval o X.env := by rfl) (hline : (apos.endLine == cpos.line) = true := by rfl) :
    VE X (T1 ++ T2) W (.Call (.Attribute o "join" apos) [e] [] cpos) (cJoin fo fe) :=
  pe_imp (pe_join ho he hs hbase hline) fun σ H Q ⟨F, ρ, fp, ou, E, q, P⟩ => by
    refine tv_bnd E q P (fun i hi => List.mem_append_left _ hi) fun x ρ1 v H1 F1 fp1 s1 r1 e1 P1 => ?_
    split at e1
    · rename_i a
      have r1' : Dq X.K F1 v (.str a) := r1
      cases r1'
      refine ⟨⟨a, rfl⟩, ?_⟩
      refine tv_bnd s1.env e1 P1 (fun i hi => List.mem_append_right _ hi) fun y ρ2 w H2 F2 fp2 s2 r2 e2 P2 => ?_
      unfold join1 at e2
      split at e2
      · rename_i a' ds ha hd
        cases ha
        split at e2
        · rename_i ss hss
          split at e2
          · rename_i hz
            cases ok_inj e2
            obtain ⟨b, vs, rfl, h1, h2⟩ := (derS_ok s2.env r2 hd).list s2.env.sub
            have ev := strs_ok h2 hss
            subst ev
            exact ⟨a, b, ss, rfl, rfl, .inl (.inl h1), hz, P2 _ H2 F2 fp2 (.refl s2.env) (.str _)⟩
          · cases e2
        · cases e2
      · cases e2
    · cases e1
/-! ### isinstance(e, C), e the error that is handled, in slot i -/
def cIsE (i : Nat) (a : Addr) (b : Bool) : M Rv := fun ρ => match ρ[i]? with
  | some (.own _ (.raw (.ref a'))) => if a' = a then some (.ok (.d (.bool b)) ρ) else none
  | _ => none
theorem ve_isE (i : Nat) {a D : Addr} {oe : Obj} {y : Str} {cv : Value} {c : V} {b : Bool} {p1 p2 : Pos} (C : ExcC X.K D) (hz : Zc (.ref D) none oe) (hf : ∃ vs, oe.data = .fields vs) (hp : (a, oe) ∈ X.pn) (hk : PySem.W.kitOne X.K (.ref D) cv = some b)
    (hn : X.mg "isinstance" = none) (hgn : Gl X "isinstance") (hy : PE X (.Name y p2) (tC c)) (hcv : ∀ u, RelV c u → u = cv) (hN : X.N[i]? = some x := by rfl) (hv : Vis X.env.scope x := by first | exact Or.inl rfl | exact Or.inr (Or.inl rfl) | exact Or.inr (Or.inr rfl)) (hd : (x == ("__debug__" : Str)) = false := by decide)
    (hcd : (x == ("__classdict__" : Str)) = false := by decide) : VE X [] W (.Call (.Name "isinstance" p) [.Name x p1, .Name y p2] [] pos) (cIsE i a b) :=
  pe_imp (pe_callB (VLH.call_isP C hz hf hp) hgn hn (by decide +kernel) (pa_cons (pe_var hN hv hd hcd) (pa_cons hy pa_nil)) (by decide) (by decide) rfl rfl) fun σ H Q ⟨F, ρ, fp, o, E, q, P⟩ => by
    unfold cIsE at q
    split at q
    · rename_i m a' h
      split at q
      · rename_i ea
        subst ea
        cases ok_inj q
        obtain ⟨u, hu, r⟩ := E.sl i _ h
        generalize fp i = A at r
        cases r
        exact ⟨_, sg_some.mp hu, c, cv, b, rfl, hcv, hk, P _ H F fp (.refl E) (.bl b)⟩
      · cases q
    · cases q
/-! ### a comprehension over range within a hot def -/
def VIH (X : Cx) (T : List Nat) (W : WV) (tg iter : Expr) (f : M (List PyData)) : Prop := ∃ wi, L2H.PIH X tg iter wi ∧ ∀ σ H R F ρ fp o, EnvOk X.K F H σ ρ fp → f ρ = some o →
  (match o with
   | Er.ok xs ρ' => ∀ J G Y H1 F1 fp1, EStep X.K T F H σ ρ fp F1 H1 ρ' fp1 → Walk J xs.length G Y → (∀ F2 H2, Same F1 F2 → Same F2 H2 → G H2) →
      (∀ i F2 H2 x H3, i < xs.length → Same F1 F2 → Same F2 H2 → Y i H2 x H3 → ∃ F3 d, xs[i]? = some d ∧ Grow F2 H2 F3 H3 ∧ Dq X.K F3 x d) → R J H1
   | Er.ex c ρ' => ∀ H1 F1 fp1, EStep X.K T F H σ ρ fp F1 H1 ρ' fp1 → W c σ H1) → wi σ H R
theorem vih_range1 {tg a : Expr} {fs : M (List Rv)} {p : Pos} (hg : Gl X "range") (hm : X.mg "range" = none) (ha : VA X T W [a] fs) (hs : starEach [a] X.env = [(false, eval a X.env)] := by rfl) : VIH X T W tg (.Call (.Name "range" p) [a] [] pos) (iRange1 fs) := by
  refine ⟨_, L2H.pi_range1H hg hm ha hs, fun σ H R F ρ fp o E q P => ?_⟩
  unfold iRange1 bnd at q
  cases hf : fs ρ with
  | none => rw [hf] at q; cases q
  | some r =>
    rw [hf] at q
    cases r with
    | ex c ρ1 => cases q; exact ⟨F, ρ, fp, _, E, hf, fun H1 F1 fp1 s1 => P H1 F1 fp1 s1⟩
    | ok rs ρ1 =>
      simp only at q
      split at q
      · rename_i j
        split at q
        · rename_i hj
          cases q
          refine ⟨F, ρ, fp, _, E, hf, fun vs H1 F1 fp1 s1 r1 => ?_⟩
          cases r1 with
          | cons h t =>
            cases t
            have h : Dq X.K F1 _ (.int j) := h
            cases h
            have w0 := walk_range (lo := 0) (n := j.toNat)
            rw [← rangeD_len 0 j.toNat] at w0
            refine ⟨j, rfl, hj.1, hj.2, P _ _ _ H1 F1 fp1 s1 (by rw [rangeD_len] at w0 ⊢; exact w0) (fun _ _ _ _ => trivial) fun i F2 H2 x H3 hi a b y => ?_⟩
            obtain ⟨rfl, rfl⟩ := y
            rw [rangeD_len] at hi
            exact ⟨F2, _, rangeD_get hi, .refl b, .int _⟩
        · cases q
      · cases q
theorem vn_compH {T1 T2 T3 : List Nat} {elt tg iter : Expr} {ifs : List Expr} {scope : Scope} {own : List (Str × Nat)} {fi : M (List PyData)} {gt : TG} {ws : List Nat} {G : MG} {tt : M Bool} {te : M Rv} (hc : L2H.HotC X) (hN : X.N.Nodup) (hi : VIH X T1 W tg iter fi) (ok : BlkOk X.N X.env.scope scope own)
    (hg : ∀ (s : Shared) (H : Hp) (C : Addr) (cl : List (Str × Addr)) (fp : List Addr), VG (X.blk s H scope (compEnvC scope cl C X.env) fp) tg gt ws G) (hw : ∀ i ∈ ws, i ∈ own.map (·.2))
    (ht : ∀ (s : Shared) (H : Hp) (C : Addr) (cl : List (Str × Addr)) (fp : List Addr), VTs (X.blk s H scope (compEnvC scope cl C X.env) fp) T2 W0 ifs tt)
    (he : ∀ (s : Shared) (H : Hp) (C : Addr) (cl : List (Str × Addr)) (fp : List Addr), VE (X.blk s H scope (compEnvC scope cl C X.env) fp) T3 W0 elt te) (hs : ∀ x, foldedSetIterable iter X.env x = pure x := by intro _; rfl) :
    VN X (T1 ++ (T2 ++ T3)) W (.ListComp elt [⟨tg, iter, ifs, 0⟩] scope pos) (nComp fi (own.map (·.2)) G tt te) := by
  obtain ⟨wi, p1, q1⟩ := hi
  exact pe_imp (VLH.pe_lcH (tt := tVT X.K T2 W0 tt) (te := tV X.K T3 W0 te) hc hN p1 ok (fun s H C cl fp => (hg s H C cl fp).1) ht he hs) fun σ H Q h => tv_comp q1 (hg X.s_0 (fun _ => none) 0 [] []).2 hw h
/-! ### try: .. except HallError as e: kind = _law_kinds(e) -/
def plusS : Str := ⟨#[43]⟩
/-- what _law_kinds promises: the class's name and a + -/
def spK (K : Fg) (mg : Str → Option Value) (cs : List Str) : Addr → Addr → Sp := fun a D vs H Q _ => vs = [.ref a] ∧ ∃ c ∈ cs, mg c = some (.ref D) ∧ ∃ F, Same F H ∧ TbOk K F H ∧ ∀ F' H', Grow2 K F H F' H' → Q (.str (c ++ plusS)) H'
def isNo : Option Sl → Bool
  | some .no => true
  | _ => false
theorem isNo_some {o : Option Sl} (h : isNo o = true) : o = some .no := by
  unfold isNo at h
  split at h
  · rfl
  · cases h
theorem isNo_own {ρ : Rho} {j : Nat} (h : isNo ρ[j]? = true) : noOwn ρ [j] = true := by
  unfold noOwn noOwn
  rw [isNo_some h]
  rfl
theorem isNo_set {ρ : Rho} {j : Nat} (h : isNo ρ[j]? = true) : ρ.set j .no = ρ := by
  have e := isNo_some h
  have hl := (List.getElem?_eq_some_iff.mp e).1
  apply List.ext_getElem?
  intro i
  by_cases hi : j = i
  · subst hi; rw [List.getElem?_set_self hl, e]
  · rw [List.getElem?_set_ne hi]
def sTryK (cs : List Str) (j k : Nat) (g : MS) : MS := fun ρ => match g ρ with
  | some (.ex c ρ1) => if c ∈ cs ∧ isNo ρ1[j]? = true then (match setSl ρ1 k (.val (.str (c ++ plusS))) with
    | some ρ2 => if isNo ρ2[j]? then some (.nx ρ2) else none
    | none => none) else none
  | o => o
theorem vs_tryK {n kn xk : Str} {Hc : Addr} {cs : List Str} {j i : Nat} {np pos' p1 p2 p3 p4 p5 : Pos} {body : List Stmt} {g : MS} (hN : X.N.Nodup) (G : VLH.FnE X.prog X.w X.K X.mg X.base k f fd ["e"] (spK X.K X.mg cs)) (hr : Room k X.A) (hmk : X.mg xk = some (.ref f)) (hgk : Gl X xk) (hkk : PySem.W.keepIn X.K (.ref f) = true) (hbk : Binds X.K fd ["e"] [])
    (hgH : Gl X x) (hmH : X.mg x = some (.ref Hc)) (tab : ∀ c ∈ cs, ∃ C, X.mg c = some (.ref C) ∧ PySem.W.exmOne X.K (.ref C) (.ref Hc) = some true)
    (hb : ∀ (W : WV) (pn : List (Addr × Obj)) (xe : Value → Shared → Prop), TakesV (X.tr pn xe) W → PassesOwn (model X.prog X.w) X.A X.env xe → VSs (X.tr pn xe) W body g)
    (hj : X.N[j]? = some n := by rfl) (hi : X.N[i]? = some kn := by rfl) (hln : X.env.kindOf n = some .local := by rfl) (hlk : Loc X.env.scope kn := by first | exact Or.inl rfl | exact Or.inr rfl) (hs : X.stack = X.env :: X.outer := by rfl) (hf : X.env.frame = some X.env.locals := by rfl)
    (hvn : Vis X.env.scope n := by first | exact Or.inl rfl | exact Or.inr (Or.inl rfl) | exact Or.inr (Or.inr rfl)) (hdb : (x == ("__debug__" : Str)) = false := by decide) (hdk : (xk == ("__debug__" : Str)) = false := by decide) (hdn : (n == ("__debug__" : Str)) = false := by decide) (hcn : (n == ("__classdict__" : Str)) = false := by decide)
    (hsw : ∀ a pn, swapsWith (.Call (.Name xk p2) [.Name n p3] [] p4) (some (.Name kn p1)) p5.line (X.suite a pn).env = pure false := by intro _ _; rfl)
    (hlkf : X.fn kn = true ∨ X.env.scope.names.lookup kn = some .local := by first | exact .inl rfl | exact .inr rfl | assumption) :
    VS X W (.Try body [.ExceptHandler (some (.Name x np)) (some n) [.Assign [.Name kn p1] (.Call (.Name xk p2) [.Name n p3] [] p4) p5] pos'] [] [] pos) (sTryK cs j i g) := by
  have hsu : ∀ (a : Addr) (oe : Obj) (cls : Value) (d : Option Addr) (pn : List (Addr × Obj)), L2N.Zn cls d oe → (∃ vs, oe.data = .fields vs) → PSs (X.suite a ((a, oe) :: pn)) [.Assign [.Name kn p1] (.Call (.Name xk p2) [.Name n p3] [] p4) p5]
      (fun D σ H => ∃ Dc, cls = .ref Dc ∧ d = none ∧ (tAsg (fun σ H Q => (tCons (tVar j) tNil) σ H fun vs H1 => spK X.K X.mg cs a Dc vs H1 Q (fun _ _ _ => False)) (gName i)) D σ H) := by
    intro a oe cls d pn hz hfl
    refine ⟨fun pins s σ H D I h => ?_⟩
    obtain ⟨Dc, rfl, rfl, h⟩ := h
    obtain ⟨vs, hvs⟩ := hfl
    have hot : L2H.Hot1 (X.suite a ((a, oe) :: pn)).A (a, oe) := ⟨rfl, vs, hvs, hz.2.2 vs hvs⟩
    exact (pss_one (ps_set (X := X.suite a ((a, oe) :: pn)) (i := i) hN hi hlk (VLH.pe_callE (X := X.suite a ((a, oe) :: pn)) (D := Dc) G ⟨hr.dp, hr.un⟩ hot List.mem_cons_self hz.zc hgk hmk hkk hbk (pa_cons (pe_var hj hvn hdn hcn) pa_nil) hdk) (hsw _ _) hlkf)).run pins s σ H D I h
  refine ps_imp (L2N.ps_try_as (x := x) (c := .ref Hc) (i := j) (tb := fun W' => tS X.K (fun c σ H => ∀ cls, X.mg c = some cls → W' cls none σ H) g) hs hf hN hj hln ⟨hgH, hdb, .inl hmH⟩ takesN0
    (fun W' pn xe tk po => hb _ pn xe (tk.imp fun cls d σ H ⟨hd, c, hc, h⟩ => by subst hd; exact h cls hc) po) hsu) fun D σ H ⟨F0, ρ, fp, o, E, q, P⟩ => ?_
  unfold sTryK at q
  have other : ∀ {o' : Out}, g ρ = some o' → o = o' → (∀ c ρ1, o' ≠ .ex c ρ1) → tS X.K (fun c σ H => ∀ cls, X.mg c = some cls → wAs X.K (.ref Hc) j (fun a cls d => fun D σ H => ∃ Dc, cls = .ref Dc ∧ d = none ∧ (tAsg (fun σ H Q => (tCons (tVar j) tNil) σ H fun vs H1 => spK X.K X.mg cs a Dc vs H1 Q (fun _ _ _ => False)) (gName i)) D σ H) (fun _ _ _ _ => False) D cls none σ H) g D σ H := by
    intro o' hg ho hne
    subst ho
    refine ⟨F0, ρ, fp, o, E, hg, ?_⟩
    cases o with
    | nx ρ' => exact P
    | rt t ρ' => exact P
    | bk ρ' => exact P
    | ct ρ' => exact P
    | ex c ρ' => exact absurd rfl (hne c ρ')
  cases hg : g ρ with
  | none => rw [hg] at q; cases q
  | some o' =>
    rw [hg] at q
    cases o' with
    | nx ρ' => cases q; exact other hg rfl (fun _ _ z => nomatch z)
    | rt t ρ' => cases q; exact other hg rfl (fun _ _ z => nomatch z)
    | bk ρ' => cases q; exact other hg rfl (fun _ _ z => nomatch z)
    | ct ρ' => cases q; exact other hg rfl (fun _ _ z => nomatch z)
    | ex c ρ1 =>
      simp only at q
      split at q
      · rename_i hc
        obtain ⟨hc, hno⟩ := hc
        split at q
        · rename_i ρ2 h2
          split at q
          · rename_i hno2
            cases (Option.some.inj q)
            have e1 := isNo_set hno
            have e2 := isNo_set hno2
            refine ⟨F0, ρ, fp, _, E, hg, fun σ1 H1 F1 fp1 s1 cls hcls => ?_⟩
            obtain ⟨C, hC, hex⟩ := tab c hc
            rw [hC] at hcls
            cases hcls
            refine ⟨true, hex, fun _ a ha => ?_, fun z => by cases z⟩
            have hjl : j < σ1.length := by
              rw [s1.env.len]
              exact (List.getElem?_eq_some_iff.mp (isNo_some hno)).1
            -- growth, then the error's slot, then the word, then the slot again
            have sA : ∀ F2 H', Grow2 X.K F1 H1 F2 H' → Step X.K F0 H σ ρ fp F2 H' (σ1.set j (some (.ref a))) ρ1 fp1 := fun F2 H' g1 => by
              have s2 := s1.trans (g1.step (T := []) s1.env).st
              have s3 := s2.trans (wipe_step s2.env (σin := σ1.set j (some (.ref a))) (vs := [j]) (isNo_own hno) (by rw [List.length_set]) fun i hi => sg_set_ne fun z => hi (by simp [z]))
              have e : wipeR ρ1 [j] = ρ1 := e1
              rw [e] at s3
              exact s3
            refine ⟨C, rfl, rfl, _, (by rw [List.getElem?_set_self hjl]), rfl, c, hc, hC, F1, s1.env.sub, s1.env.tb, fun F2 H' sm => ?_⟩
            have sB := set_stepW (sA F2 H' sm) h2 (v := .str (c ++ plusS)) (A := []) ⟨_, rfl, .str _⟩ List.nodup_nil (fun b hb => nomatch hb) (fun _ => rfl) (fun b hb => nomatch hb)
            have sC := sB.trans (wipe_step sB.env (σin := ((σ1.set j (some (.ref a))).set i (some (.str (c ++ plusS)))).set j none) (vs := [j]) (isNo_own hno2) (by rw [List.length_set]) fun i hi => sg_set_ne fun z => hi (by simp [z]))
            have e : wipeR ρ2 [j] = ρ2 := e2
            rw [e] at sC
            exact P _ H' F2 _ sC
          · cases q
        · cases q
      · cases q
end
end VL

end

section
set_option Elab.async false
set_option linter.all false
set_option maxRecDepth 100000
/-! what the mirror does, by weakest preconditions -/
namespace VL
open PySem PySem.Spec PyProof.Rows L2

def okM {α : Type} (o : Option (Er α)) (P : α → Rho → Prop) : Prop := ∃ a ρ, o = some (.ok a ρ) ∧ P a ρ
def okS (o : Option Out) (P : Out → Prop) : Prop := ∃ x, o = some x ∧ P x
def okF (o : Option (FR × List Sl)) (P : Tr → List Sl → Prop) : Prop := ∃ t outs, o = some (.ret t, outs) ∧ P t outs
def okR (o : Option Rho) (P : Rho → Prop) : Prop := ∃ ρ, o = some ρ ∧ P ρ
def okO {α : Type} (o : Option α) (P : α → Prop) : Prop := ∃ a, o = some a ∧ P a
section
variable {α β : Type} {ρ : Rho}
@[simp] theorem okO_some {a : α} {P : α → Prop} : okO (some a) P ↔ P a := ⟨fun ⟨_, e, h⟩ => by cases e; exact h, fun h => ⟨_, rfl, h⟩⟩
@[simp] theorem okO_none {P : α → Prop} : okO (none : Option α) P ↔ False := ⟨fun ⟨_, e, _⟩ => (by cases e), False.elim⟩
@[simp] theorem okR_some {P : Rho → Prop} {ρ : Rho} : okR (some ρ) P ↔ P ρ := ⟨fun ⟨_, e, h⟩ => by cases e; exact h, fun h => ⟨_, rfl, h⟩⟩
@[simp] theorem okR_none {P : Rho → Prop} : okR none P ↔ False := ⟨fun ⟨_, e, _⟩ => (by cases e), False.elim⟩
@[simp] theorem okS_some {P : Out → Prop} {o : Out} : okS (some o) P ↔ P o := ⟨fun ⟨_, e, h⟩ => by cases e; exact h, fun h => ⟨_, rfl, h⟩⟩
@[simp] theorem okS_none {P : Out → Prop} : okS none P ↔ False := ⟨fun ⟨_, e, _⟩ => (by cases e), False.elim⟩
@[simp] theorem okM_ok {a : α} {P : α → Rho → Prop} : okM (some (Er.ok a ρ)) P ↔ P a ρ := ⟨fun ⟨_, _, e, h⟩ => by cases e; exact h, fun h => ⟨_, _, rfl, h⟩⟩
@[simp] theorem okM_none {P : α → Rho → Prop} : okM (none : Option (Er α)) P ↔ False := ⟨fun ⟨_, _, e, _⟩ => (by cases e), False.elim⟩
@[simp] theorem okF_some {P : Tr → List Sl → Prop} {t : Tr} {outs : List Sl} : okF (some (.ret t, outs)) P ↔ P t outs := ⟨fun ⟨_, _, e, h⟩ => by cases e; exact h, fun h => ⟨_, _, rfl, h⟩⟩
theorem okM_congr {o : Option (Er α)} {P Q : α → Rho → Prop} (h : ∀ a ρ, P a ρ ↔ Q a ρ) : okM o P ↔ okM o Q := ⟨fun ⟨a, ρ, e, p⟩ => ⟨a, ρ, e, (h a ρ).mp p⟩, fun ⟨a, ρ, e, p⟩ => ⟨a, ρ, e, (h a ρ).mpr p⟩⟩
@[simp] theorem okM_bnd {f : M α} {k : α → M β} {P : β → Rho → Prop} : okM (bnd f k ρ) P ↔ okM (f ρ) fun a ρ1 => okM (k a ρ1) P := by
  unfold bnd
  constructor
  · rintro ⟨b, ρ2, e, h⟩
    cases q : f ρ with
    | none => rw [q] at e; cases e
    | some r =>
      rw [q] at e
      cases r with
      | ok a ρ1 => exact ⟨a, ρ1, rfl, b, ρ2, e, h⟩
      | ex c ρ1 => cases e
  · rintro ⟨a, ρ1, e, b, ρ2, e2, h⟩
    exact ⟨b, ρ2, by rw [e]; exact e2, h⟩
@[simp] theorem okM_ret {a : α} {P : α → Rho → Prop} : okM (ret a ρ) P ↔ P a ρ := okM_ok
@[simp] theorem okS_E {f : M α} {k : α → MS} {P : Out → Prop} (hx : ∀ c ρ, P (.ex c ρ) ↔ False) : okS (sE f k ρ) P ↔ okM (f ρ) fun a ρ1 => okS (k a ρ1) P := by
  unfold sE
  constructor
  · rintro ⟨o, e, h⟩
    cases q : f ρ with
    | none => rw [q] at e; cases e
    | some r =>
      rw [q] at e
      cases r with
      | ok a ρ1 => exact ⟨a, ρ1, rfl, o, e, h⟩
      | ex c ρ1 => cases e; exact ((hx _ _).mp h).elim
  · rintro ⟨a, ρ1, e, o, e2, h⟩
    exact ⟨o, by rw [e]; exact e2, h⟩
theorem okS_E' {f : M α} {k : α → MS} {P : Out → Prop} (h : okM (f ρ) fun a ρ1 => okS (k a ρ1) P) : okS (sE f k ρ) P := by
  obtain ⟨a, ρ1, e, o, e2, h⟩ := h
  exact ⟨o, by unfold sE; rw [e]; exact e2, h⟩
/-- what follows a statement -/
def nxt (h : MS) (P : Out → Prop) : Out → Prop
  | .nx ρ1 => okS (h ρ1) P
  | o => P o
@[simp] theorem nxt_nx {h : MS} {P : Out → Prop} : nxt h P (.nx ρ) ↔ okS (h ρ) P := Iff.rfl
@[simp] theorem nxt_rt {h : MS} {P : Out → Prop} {t : Tr} : nxt h P (.rt t ρ) ↔ P (.rt t ρ) := Iff.rfl
@[simp] theorem nxt_bk {h : MS} {P : Out → Prop} : nxt h P (.bk ρ) ↔ P (.bk ρ) := Iff.rfl
@[simp] theorem nxt_ct {h : MS} {P : Out → Prop} : nxt h P (.ct ρ) ↔ P (.ct ρ) := Iff.rfl
@[simp] theorem nxt_ex {h : MS} {P : Out → Prop} {c : Str} : nxt h P (.ex c ρ) ↔ P (.ex c ρ) := Iff.rfl
theorem okS_seq {g h : MS} {P : Out → Prop} : okS (sSeq g h ρ) P ↔ okS (g ρ) (nxt h P) := by
  unfold sSeq
  constructor
  · rintro ⟨o, e, p⟩
    cases q : g ρ with
    | none => rw [q] at e; cases e
    | some r =>
      rw [q] at e
      cases r with
      | nx ρ1 => exact ⟨_, rfl, o, e, p⟩
      | _ => cases e; exact ⟨_, rfl, p⟩
  · rintro ⟨r, q, p⟩
    cases r with
    | nx ρ1 =>
      obtain ⟨o, e, p⟩ := p
      exact ⟨o, by rw [q]; exact e, p⟩
    | _ => exact ⟨_, by rw [q], p⟩
theorem okS_mono {o : Option Out} {P Q : Out → Prop} (h : okS o P) (i : ∀ x, P x → Q x) : okS o Q := let ⟨x, e, p⟩ := h; ⟨x, e, i x p⟩
theorem okM_mono {o : Option (Er α)} {P Q : α → Rho → Prop} (h : okM o P) (i : ∀ a ρ, P a ρ → Q a ρ) : okM o Q := let ⟨x, ρ, e, p⟩ := h; ⟨x, ρ, e, i x ρ p⟩
theorem okF_mono {o : Option (FR × List Sl)} {P Q : Tr → List Sl → Prop} (h : okF o P) (i : ∀ a ρ, P a ρ → Q a ρ) : okF o Q := let ⟨x, ρ, e, p⟩ := h; ⟨x, ρ, e, i x ρ p⟩
/-! expressions -/
@[simp] theorem okM_cD {x : PyData} {P : Rv → Rho → Prop} : okM (cD x ρ) P ↔ P (.d x) ρ := okM_ok
theorem okM_lift {o : Option α} {P : α → Rho → Prop} : okM (match o with | some a => some (Er.ok a ρ) | none => none) P ↔ okO o fun a => P a ρ := by
  cases o <;> simp
theorem okM_bin1 {g : PyData → PyData → Option PyData} {x y : Rv} {P : Rv → Rho → Prop} : okM (bin1 g x y ρ) P ↔ okO (derS ρ x) fun a => okO (derS ρ y) fun b => okO (g a b) fun z => P (.d z) ρ := by
  unfold bin1
  cases derS ρ x <;> cases derS ρ y <;> simp
  rename_i a b
  cases g a b <;> simp
@[simp] theorem okM_cBin {g : PyData → PyData → Option PyData} {fa fb : M Rv} {P : Rv → Rho → Prop} : okM (cBin g fa fb ρ) P ↔ okM (fa ρ) fun x ρ1 => okM (fb ρ1) fun y ρ2 => okO (derS ρ2 x) fun a => okO (derS ρ2 y) fun b => okO (g a b) fun z => P (.d z) ρ2 := by
  unfold cBin
  simp only [okM_bnd, okM_bin1]
theorem okM_binD {g : PyData → PyData → Option Bool} {x y : Rv} {P : Bool → Rho → Prop} : okM (binD g x y ρ) P ↔ okO (der ρ x) fun a => okO (der ρ y) fun b => okO (g a b) fun z => P z ρ := by
  unfold binD
  cases der ρ x <;> cases der ρ y <;> simp
  rename_i a b
  cases g a b <;> simp
@[simp] theorem okM_cCmp {g : PyData → PyData → Option Bool} {fa fb : M Rv} {P : Bool → Rho → Prop} : okM (cCmp g fa fb ρ) P ↔ okM (fa ρ) fun x ρ1 => okM (fb ρ1) fun y ρ2 => okO (der ρ2 x) fun a => okO (der ρ2 y) fun b => okO (g a b) fun z => P z ρ2 := by
  unfold cCmp
  simp only [okM_bnd, okM_binD]
@[simp] theorem okM_cOf {f : M Bool} {P : Rv → Rho → Prop} : okM (cOf f ρ) P ↔ okM (f ρ) fun b ρ1 => P (.d (.bool b)) ρ1 := by
  unfold cOf
  simp only [okM_bnd, okM_ret]
@[simp] theorem okM_chain {g g' : PyData → PyData → Option Bool} {fa fb fc : M Rv} {P : Bool → Rho → Prop} : okM (cChain g g' fa fb fc ρ) P ↔ okM (fa ρ) fun x ρ1 => okM (fb ρ1) fun y ρ2 => okO (der ρ2 x) fun a => okO (der ρ2 y) fun b => okO (g a b) fun k =>
    if k = true then okM (fc ρ2) fun z ρ3 => okO (der ρ3 y) fun b' => okO (der ρ3 z) fun c => okO (g' b' c) fun r => P r ρ3 else P false ρ2 := by
  unfold cChain
  simp only [okM_bnd, okM_binD]
  have e : ∀ (k : Bool) (y : Rv) (ρ2 : Rho), okM ((if k = true then bnd fc fun z => binD g' y z else ret false) ρ2) P ↔ if k = true then okM (fc ρ2) fun z ρ3 => okO (der ρ3 y) fun b' => okO (der ρ3 z) fun c => okO (g' b' c) fun r => P r ρ3 else P false ρ2 := fun k y ρ2 => by
    cases k <;> simp [okM_binD]
  simp only [e]
@[simp] theorem okM_cTest {f : M Rv} {P : Bool → Rho → Prop} : okM (cTest f ρ) P ↔ okM (f ρ) fun x ρ1 => okO (asB ρ1 x) fun b => P b ρ1 := by
  unfold cTest
  rw [okM_bnd]
  refine okM_congr fun x ρ1 => ?_
  cases asB ρ1 x <;> simp
@[simp] theorem asB_d {b : Bool} : asB ρ (.d (.bool b)) = some b := rfl
@[simp] theorem okM_cNot {f : M Bool} {P : Bool → Rho → Prop} : okM (cNot f ρ) P ↔ okM (f ρ) fun b ρ1 => P (!b) ρ1 := by
  unfold cNot
  simp only [okM_bnd, okM_ret]
@[simp] theorem okM_cAnd {f g : M Bool} {P : Bool → Rho → Prop} : okM (cAnd f g ρ) P ↔ okM (f ρ) fun b ρ1 => if b = true then okM (g ρ1) P else P false ρ1 := by
  unfold cAnd
  simp only [okM_bnd]
  have e : ∀ (k : Bool) (ρ2 : Rho), okM ((if k = true then g else ret false) ρ2) P ↔ if k = true then okM (g ρ2) P else P false ρ2 := fun k ρ2 => by cases k <;> simp
  simp only [e]
@[simp] theorem okM_cOr {f g : M Bool} {P : Bool → Rho → Prop} : okM (cOr f g ρ) P ↔ okM (f ρ) fun b ρ1 => if b = true then P true ρ1 else okM (g ρ1) P := by
  unfold cOr
  simp only [okM_bnd]
  have e : ∀ (k : Bool) (ρ2 : Rho), okM ((if k = true then ret true else g) ρ2) P ↔ if k = true then P true ρ2 else okM (g ρ2) P := fun k ρ2 => by cases k <;> simp
  simp only [e]
@[simp] theorem okM_cAndV {f g : M Rv} {P : Rv → Rho → Prop} : okM (cAndV f g ρ) P ↔ okM (f ρ) fun x ρ1 => okO (asB ρ1 x) fun b => if b = true then okM (g ρ1) P else P (.d (.bool false)) ρ1 := by
  unfold cAndV
  simp only [okM_bnd, okM_cTest]
  have e : ∀ (k : Bool) (ρ2 : Rho), okM ((if k = true then g else ret (.d (.bool false))) ρ2) P ↔ if k = true then okM (g ρ2) P else P (.d (.bool false)) ρ2 := fun k ρ2 => by cases k <;> simp
  simp only [e]
@[simp] theorem okM_cOrV {f g : M Rv} {P : Rv → Rho → Prop} : okM (cOrV f g ρ) P ↔ okM (f ρ) fun x ρ1 => okO (asB ρ1 x) fun b => if b = true then P (.d (.bool true)) ρ1 else okM (g ρ1) P := by
  unfold cOrV
  simp only [okM_bnd, okM_cTest]
  have e : ∀ (k : Bool) (ρ2 : Rho), okM ((if k = true then ret (.d (.bool true)) else g) ρ2) P ↔ if k = true then P (.d (.bool true)) ρ2 else okM (g ρ2) P := fun k ρ2 => by cases k <;> simp
  simp only [e]
@[simp] theorem okM_cNotV {f : M Rv} {P : Rv → Rho → Prop} : okM (cNotV f ρ) P ↔ okM (f ρ) fun x ρ1 => okO (asB ρ1 x) fun b => P (.d (.bool (!b))) ρ1 := by
  unfold cNotV
  simp only [okM_bnd, okM_cTest, okM_ret]
@[simp] theorem okM_cIf {c : M Bool} {f g : M α} {P : α → Rho → Prop} : okM (cIf c f g ρ) P ↔ okM (c ρ) fun b ρ1 => if b = true then okM (f ρ1) P else okM (g ρ1) P := by
  unfold cIf
  simp only [okM_bnd]
  have e : ∀ (k : Bool) (ρ2 : Rho), okM ((if k = true then f else g) ρ2) P ↔ if k = true then okM (f ρ2) P else okM (g ρ2) P := fun k ρ2 => by cases k <;> simp
  simp only [e]
@[simp] theorem okM_aNil {P : List Rv → Rho → Prop} : okM (aNil ρ) P ↔ P [] ρ := okM_ok
@[simp] theorem okM_aCons {f : M Rv} {g : M (List Rv)} {P : List Rv → Rho → Prop} : okM (aCons f g ρ) P ↔ okM (f ρ) fun x ρ1 => okM (g ρ1) fun xs ρ2 => P (x :: xs) ρ2 := by
  unfold aCons
  simp only [okM_bnd, okM_ret]
@[simp] theorem okM_mkTup {rs : List Rv} {P : Rv → Rho → Prop} : okM (mkTup rs ρ) P ↔ okO (datas rs) fun ds => small ds.length = true ∧ P (.d (.tuple ds)) ρ := by
  unfold mkTup
  cases datas rs <;> simp
  split <;> simp_all
@[simp] theorem okM_cTup {f : M (List Rv)} {P : Rv → Rho → Prop} : okM (cTup f ρ) P ↔ okM (f ρ) fun rs ρ1 => okO (datas rs) fun ds => small ds.length = true ∧ P (.d (.tuple ds)) ρ1 := by
  unfold cTup
  simp only [okM_bnd, okM_mkTup]
@[simp] theorem okM_mkLst {rs : List Rv} {P : Tr → Rho → Prop} : okM (mkLst rs ρ) P ↔ okO (datas rs) fun ds => small ds.length = true ∧ P (.lst (ds.map .dat)) ρ := by
  unfold mkLst
  cases datas rs <;> simp
  split <;> simp_all
@[simp] theorem okM_nLst {f : M (List Rv)} {P : Tr → Rho → Prop} : okM (nLst f ρ) P ↔ okM (f ρ) fun rs ρ1 => okO (datas rs) fun ds => small ds.length = true ∧ P (.lst (ds.map .dat)) ρ1 := by
  unfold nLst
  simp only [okM_bnd, okM_mkLst]
@[simp] theorem okM_cFrz {f : M Tr} {P : Rv → Rho → Prop} : okM (cFrz f ρ) P ↔ okM (f ρ) fun t ρ1 => okO t.toD fun d => P (.d d) ρ1 := by
  unfold cFrz
  rw [okM_bnd]
  refine okM_congr fun t ρ1 => ?_
  cases t.toD <;> simp
def rvd : Rv → Option PyData
  | .d d => some d
  | .o _ => none
@[simp] theorem rvd_d {d : PyData} : rvd (.d d) = some d := rfl
@[simp] theorem okM_nDat {f : M Rv} {P : Tr → Rho → Prop} : okM (nDat f ρ) P ↔ okM (f ρ) fun x ρ1 => okO (rvd x) fun d => P (.dat d) ρ1 := by
  unfold nDat
  rw [okM_bnd]
  refine okM_congr fun x ρ1 => ?_
  cases x <;> simp [rvd]
def rvi : Rv → Option Int
  | .d (.int i) => some i
  | _ => none
@[simp] theorem rvi_d {i : Int} : rvi (.d (.int i)) = some i := rfl
@[simp] theorem okM_oNone {P : Option Int → Rho → Prop} : okM (oNone ρ) P ↔ P none ρ := okM_ok
@[simp] theorem okM_oSome {f : M Rv} {P : Option Int → Rho → Prop} : okM (oSome f ρ) P ↔ okM (f ρ) fun x ρ1 => okO (rvi x) fun i => P (some i) ρ1 := by
  unfold oSome
  rw [okM_bnd]
  refine okM_congr fun x ρ1 => ?_
  cases x with
  | o _ => simp [rvi]
  | d d => cases d <;> simp [rvi]
@[simp] theorem okM_cNeg {f : M Rv} {P : Rv → Rho → Prop} : okM (cNeg f ρ) P ↔ okM (f ρ) fun x ρ1 => okO (rvi x) fun i => P (.d (.int (-i))) ρ1 := by
  unfold cNeg
  rw [okM_bnd]
  refine okM_congr fun x ρ1 => ?_
  cases x with
  | o _ => simp [rvi]
  | d d => cases d <;> simp [rvi]
@[simp] theorem okM_cCut {f : M Rv} {fl fh : M (Option Int)} {P : Rv → Rho → Prop} : okM (cCut f fl fh ρ) P ↔ okM (f ρ) fun x ρ1 => okM (fl ρ1) fun lo ρ2 => okM (fh ρ2) fun hi ρ3 => okO (derS ρ3 x) fun d => okO (cutD d lo hi) fun z => P (.d z) ρ3 := by
  unfold cCut
  simp only [okM_bnd]
  have e : ∀ (x : Rv) (lo hi : Option Int) (ρ3 : Rho), okM (cut1 x lo hi ρ3) P ↔ okO (derS ρ3 x) fun d => okO (cutD d lo hi) fun z => P (.d z) ρ3 := fun x lo hi ρ3 => by
    unfold cut1
    cases derS ρ3 x <;> simp
    rename_i d
    cases cutD d lo hi <;> simp
  simp only [e]
@[simp] theorem okM_cCall {g : List PyData → Option PyData} {f : M (List Rv)} {P : Rv → Rho → Prop} : okM (cCall g f ρ) P ↔ okM (f ρ) fun rs ρ1 => okO (derSs ρ1 rs) fun ds => okO (g ds) fun z => P (.d z) ρ1 := by
  unfold cCall
  simp only [okM_bnd]
  have e : ∀ (rs : List Rv) (ρ3 : Rho), okM (call1 g rs ρ3) P ↔ okO (derSs ρ3 rs) fun ds => okO (g ds) fun z => P (.d z) ρ3 := fun rs ρ3 => by
    unfold call1
    cases derSs ρ3 rs <;> simp
    rename_i d
    cases g d <;> simp
  simp only [e]
@[simp] theorem okM_cIsi {B : BT} {f : M Rv} {P : Rv → Rho → Prop} : okM (cIsi B f ρ) P ↔ okM (f ρ) fun x ρ1 => okO (der ρ1 x) fun d => okO (isiD B d) fun b => P (.d (.bool b)) ρ1 := by
  unfold cIsi
  rw [okM_bnd]
  refine okM_congr fun x ρ1 => ?_
  cases der ρ1 x with
  | none => simp
  | some d => cases h : isiD B d <;> simp [h]
def rvs : Rv → Option Str
  | .d (.str i) => some i
  | _ => none
@[simp] theorem rvs_d {i : Str} : rvs (.d (.str i)) = some i := rfl
@[simp] theorem okM_cTab {tb : List (Str × PyData)} {f : M Rv} {P : Rv → Rho → Prop} : okM (cTab tb f ρ) P ↔ okM (f ρ) fun x ρ1 => okO (rvs x) fun z => okO (tb.lookup z) fun d => P (.d d) ρ1 := by
  unfold cTab
  simp only [okM_bnd]
  have e : ∀ (x : Rv) (ρ1 : Rho), okM (tabD tb x ρ1) P ↔ okO (rvs x) fun z => okO (tb.lookup z) fun d => P (.d d) ρ1 := fun x ρ1 => by
    unfold tabD
    cases x with
    | o _ => simp [rvs]
    | d d =>
      cases d <;> simp [rvs]
      rename_i z
      cases tb.lookup z <;> simp
  simp only [e]
@[simp] theorem okM_callN {Ts : List Nat} {m : Nat} {F : Fn} {rs : List Rv} {P : Tr → Rho → Prop} : okM (callN Ts m F rs ρ) P ↔ okO (argSls ρ rs) fun args => (rs.length = m ∧ oneEach rs = true ∧ allIn Ts rs = true) ∧ okF (F args) fun t outs => backOk args (mrg args outs) = true ∧ P t (wb ρ rs (mrg args outs)) := by
  unfold callN
  cases argSls ρ rs with
  | none => simp
  | some args =>
    simp only [okO_some]
    constructor
    · rintro ⟨a, ρ1, e, h⟩
      split at e
      · rename_i hc
        simp only [Bool.and_eq_true, decide_eq_true_eq] at hc
        refine ⟨hc, ?_⟩
        split at e
        · rename_i t outs hf
          split at e
          · rename_i hb
            cases e
            exact ⟨_, _, hf, hb, h⟩
          · cases e
        · cases e
      · cases e
    · rintro ⟨hc, t, outs, hf, hb, h⟩
      refine ⟨t, _, ?_, h⟩
      rw [if_pos (by simp only [Bool.and_eq_true, decide_eq_true_eq]; exact hc), hf]
      simp only [hb, if_true]
@[simp] theorem okM_nCall {Ts : List Nat} {m : Nat} {F : Fn} {f : M (List Rv)} {P : Tr → Rho → Prop} : okM (nCall Ts m F f ρ) P ↔ okM (f ρ) fun rs ρ1 => okM (callN Ts m F rs ρ1) P := by
  unfold nCall
  simp only [okM_bnd]
/-! what is walked -/
def rvx : Rv → Option (List PyData)
  | .d d => itemsOf d
  | .o _ => none
@[simp] theorem rvx_l {xs : List PyData} : rvx (.d (.list xs)) = some xs := rfl
@[simp] theorem rvx_t {xs : List PyData} : rvx (.d (.tuple xs)) = some xs := rfl
@[simp] theorem okM_iSeq {f : M Rv} {P : List PyData → Rho → Prop} : okM (iSeq f ρ) P ↔ okM (f ρ) fun x ρ1 => okO (rvx x) fun xs => P xs ρ1 := by
  unfold iSeq
  rw [okM_bnd]
  refine okM_congr fun x ρ1 => ?_
  cases x with
  | o _ => simp [rvx]
  | d d => cases h : itemsOf d <;> simp [rvx, h]
theorem okM_iRange1 {f : M (List Rv)} {P : List PyData → Rho → Prop} (h : okM (f ρ) fun rs ρ1 => ∃ j : Int, rs = [.d (.int j)] ∧ -(2 ^ 62) ≤ j ∧ j < 2 ^ 62 ∧ P (rangeD 0 j.toNat) ρ1) : okM (iRange1 f ρ) P := by
  unfold iRange1
  rw [okM_bnd]
  refine okM_mono h ?_
  rintro rs ρ1 ⟨j, rfl, h1, h2, p⟩
  simp only [h1, h2, and_self, if_true]
  exact okM_ok.mpr p
theorem okM_iRange2 {f : M (List Rv)} {P : List PyData → Rho → Prop} (h : okM (f ρ) fun rs ρ1 => ∃ i j : Int, rs = [.d (.int i), .d (.int j)] ∧ (-(2 ^ 62) ≤ i ∧ i < 2 ^ 62 ∧ -(2 ^ 62) ≤ j ∧ j < 2 ^ 62) ∧ P (rangeD i (j - i).toNat) ρ1) : okM (iRange2 f ρ) P := by
  unfold iRange2
  rw [okM_bnd]
  refine okM_mono h ?_
  rintro rs ρ1 ⟨i, j, rfl, h1, p⟩
  simp only [h1, and_self, if_true]
  exact okM_ok.mpr p
/-! statements -/
@[simp] theorem okS_nil {P : Out → Prop} : okS (sNil ρ) P ↔ P (.nx ρ) := okS_some
@[simp] theorem okS_retN {P : Out → Prop} : okS (sRetN ρ) P ↔ P (.rt (.dat .none) ρ) := okS_some
theorem okS_ret {f : M Tr} {P : Out → Prop} (h : okM (f ρ) fun t ρ1 => P (.rt t ρ1)) : okS (sRet f ρ) P := okS_E' (okM_mono h fun a ρ1 p => okS_some.mpr p)
theorem okS_putD {i : Nat} {d : PyData} {P : Out → Prop} : okS (putD i d ρ) P ↔ okR (setSl ρ i (.val d)) fun ρ1 => P (.nx ρ1) := by
  unfold putD
  cases setSl ρ i (.val d) <;> simp
theorem okS_set {i : Nat} {f : M Rv} {P : Out → Prop} (h : okM (f ρ) fun x ρ1 => okO (rvd x) fun d => okR (setSl ρ1 i (.val d)) fun ρ2 => P (.nx ρ2)) : okS (sSet i f ρ) P := by
  refine okS_E' (okM_mono h fun x ρ1 p => ?_)
  cases x with
  | d d =>
    simp only [rvd_d, okO_some] at p
    exact okS_putD.mpr p
  | o j => simp [rvd] at p
theorem okS_setN {i : Nat} {f : M Tr} {P : Out → Prop} (h : okM (f ρ) fun t ρ1 => okR (setSl ρ1 i (.own .free t)) fun ρ2 => P (.nx ρ2)) : okS (sSetN i f ρ) P := by
  refine okS_E' (okM_mono h fun t ρ1 p => ?_)
  obtain ⟨ρ2, e, p⟩ := p
  exact ⟨_, by rw [e]; rfl, p⟩
theorem okS_asg {G : MG} {f : M Rv} {P : Out → Prop} (h : okM (f ρ) fun x ρ1 => okO (rvd x) fun d => okR (G d ρ1) fun ρ2 => P (.nx ρ2)) : okS (sAsg G f ρ) P := by
  refine okS_E' (okM_mono h fun x ρ1 p => ?_)
  cases x with
  | d d =>
    simp only [rvd_d, okO_some] at p
    obtain ⟨ρ2, e, p⟩ := p
    exact ⟨_, by simp only [e, Option.map_some], p⟩
  | o j => simp [rvd] at p
theorem okS_if {c : M Bool} {g h : MS} {P : Out → Prop} (k : okM (c ρ) fun b ρ1 => if b = true then okS (g ρ1) P else okS (h ρ1) P) : okS (sIf c g h ρ) P := by
  refine okS_E' (okM_mono k fun b ρ1 p => ?_)
  cases b <;> simpa using p
/-- the outcome of a turn -/
def turn (J : Rho → Prop) (P : Out → Prop) : Out → Prop
  | .nx ρ => J ρ
  | .ct ρ => J ρ
  | .bk ρ => P (.nx ρ)
  | .rt t ρ => P (.rt t ρ)
  | .ex c ρ => P (.ex c ρ)
@[simp] theorem turn_nx {J : Rho → Prop} {P : Out → Prop} : turn J P (.nx ρ) ↔ J ρ := Iff.rfl
@[simp] theorem turn_ct {J : Rho → Prop} {P : Out → Prop} : turn J P (.ct ρ) ↔ J ρ := Iff.rfl
@[simp] theorem turn_bk {J : Rho → Prop} {P : Out → Prop} : turn J P (.bk ρ) ↔ P (.nx ρ) := Iff.rfl
@[simp] theorem turn_rt {J : Rho → Prop} {P : Out → Prop} {t : Tr} : turn J P (.rt t ρ) ↔ P (.rt t ρ) := Iff.rfl
theorem okS_loop {G : MG} {body : MS} {P : Out → Prop} : ∀ (xs : List PyData) (J : Nat → Rho → Prop) (ρ : Rho), J 0 ρ → (∀ i x ρ, xs[i]? = some x → J i ρ → okR (G x ρ) fun ρ1 => okS (body ρ1) (turn (J (i + 1)) P)) → (∀ ρ, J xs.length ρ → P (.nx ρ)) → okS (loopF G body xs ρ) P
  | [], J, ρ, h0, _, hd => okS_some.mpr (hd ρ h0)
  | x :: xs, J, ρ, h0, hs, hd => by
    obtain ⟨ρ1, e1, o, e2, p⟩ := hs 0 x ρ rfl h0
    have again := okS_loop (G := G) (body := body) (P := P) xs (fun i => J (i + 1))
    have hs' : ∀ i y ρ, xs[i]? = some y → J (i + 1) ρ → okR (G y ρ) fun ρ1 => okS (body ρ1) (turn (J (i + 1 + 1)) P) := fun i y ρ hy hj => hs (i + 1) y ρ (by simpa using hy) hj
    have hd' : ∀ ρ, J (xs.length + 1) ρ → P (.nx ρ) := fun ρ h => hd ρ (by simpa using h)
    unfold loopF
    rw [e1]
    simp only
    rw [e2]
    cases o with
    | nx ρ2 => exact again ρ2 p hs' hd'
    | ct ρ2 => exact again ρ2 p hs' hd'
    | bk ρ2 => exact ⟨_, rfl, p⟩
    | rt t ρ2 => exact ⟨_, rfl, p⟩
    | ex c ρ2 => exact ⟨_, rfl, p⟩
theorem okS_for {fi : M (List PyData)} {G : MG} {body : MS} {P : Out → Prop} (J : Nat → Rho → Prop) {xs : List PyData} (h : okM (fi ρ) fun ys ρ1 => ys = xs ∧ J 0 ρ1) (hs : ∀ i x ρ, xs[i]? = some x → J i ρ → okR (G x ρ) fun ρ1 => okS (body ρ1) (turn (J (i + 1)) P)) (hd : ∀ ρ, J xs.length ρ → P (.nx ρ)) : okS (sFor fi G body ρ) P := by
  refine okS_E' (okM_mono h ?_)
  rintro ys ρ1 ⟨rfl, j⟩
  exact okS_loop _ J ρ1 j hs hd
/-- a short list, turn by turn -/
theorem okS_forL {fi : M (List PyData)} {G : MG} {body : MS} {P : Out → Prop} (h : okM (fi ρ) fun xs ρ1 => okS (loopF G body xs ρ1) P) : okS (sFor fi G body ρ) P := okS_E' h
theorem okS_loop_nil {G : MG} {body : MS} {P : Out → Prop} : okS (loopF G body [] ρ) P ↔ P (.nx ρ) := okS_some
theorem okS_loop_cons {G : MG} {body : MS} {P : Out → Prop} {x : PyData} {xs : List PyData} (h : okR (G x ρ) fun ρ1 => okS (body ρ1) (turn (fun ρ2 => okS (loopF G body xs ρ2) P) P)) : okS (loopF G body (x :: xs) ρ) P := by
  obtain ⟨ρ1, e1, o, e2, p⟩ := h
  unfold loopF
  rw [e1]
  simp only
  rw [e2]
  cases o with
  | nx ρ2 => exact p
  | ct ρ2 => exact p
  | bk ρ2 => exact ⟨_, rfl, p⟩
  | rt t ρ2 => exact ⟨_, rfl, p⟩
  | ex c ρ2 => exact ⟨_, rfl, p⟩
/-! a def -/
theorem okF_run {n : Nat} {g : MS} {args : List Sl} {P : Tr → List Sl → Prop} (h : okS (g (entry n args)) fun o => match o with
    | .nx ρ' => P (.dat .none) (ρ'.take args.length)
    | .rt t ρ' => P t (ρ'.take args.length)
    | _ => False) : okF (runF n g args) P := by
  obtain ⟨o, e, p⟩ := h
  unfold runF
  rw [e]
  cases o with
  | nx ρ' => exact ⟨_, _, rfl, p⟩
  | rt t ρ' => exact ⟨_, _, rfl, p⟩
  | bk ρ' => exact p.elim
  | ct ρ' => exact p.elim
  | ex c ρ' => exact p.elim
end
end VL

end

section
set_option Elab.async false
set_option linter.all false
set_option maxRecDepth 100000
/-! simp as an executor of the mirror -/
namespace VL
open PySem PySem.Spec PyProof.Rows L2
section
variable {α β : Type} {ρ : Rho} {P : Out → Prop}
theorem okO_map {f : α → β} {o : Option α} {Q : β → Prop} : okO (o.map f) Q ↔ okO o fun a => Q (f a) := by cases o <;> simp
@[simp] theorem okO_ite {c : Prop} [Decidable c] {a : α} {Q : α → Prop} : okO (if c then some a else none) Q ↔ c ∧ Q a := by
  by_cases h : c <;> simp [h]
@[simp] theorem okO_iteO {c : Prop} [Decidable c] {a : Option α} {Q : α → Prop} : okO (if c then a else none) Q ↔ c ∧ okO a Q := by
  by_cases h : c <;> simp [h]
/-! parts of the mirror -/
theorem varS {i : Nat} : cVar i ρ = match ρ[i]? with
  | some (.val d) => some (.ok (.d d) ρ)
  | some (.own _ (.dat d)) => some (.ok (.d d) ρ)
  | some (.own _ _) => some (.ok (.o i) ρ)
  | _ => none := rfl
def rdSl (i : Nat) (s : Option Sl) : Option Rv := match s with
  | some (.val d) => some (Rv.d d)
  | some (.own _ (.dat d)) => some (.d d)
  | some (.own _ _) => some (.o i)
  | _ => none
@[simp] theorem rdSl_val {i : Nat} {d : PyData} : rdSl i (some (.val d)) = some (.d d) := rfl
@[simp] theorem rdSl_dat {i : Nat} {m : Md} {d : PyData} : rdSl i (some (.own m (.dat d))) = some (.d d) := rfl
@[simp] theorem rdSl_lst {i : Nat} {m : Md} {ts : List Tr} : rdSl i (some (.own m (.lst ts))) = some (.o i) := rfl
@[simp] theorem rdSl_tup {i : Nat} {m : Md} {ts : List Tr} : rdSl i (some (.own m (.tup ts))) = some (.o i) := rfl
@[simp] theorem rdSl_dk {i : Nat} {m : Md} {ts : List (Key × Tr)} : rdSl i (some (.own m (.dk ts))) = some (.o i) := rfl
@[simp] theorem rdSl_dt {i : Nat} {m : Md} {ts : List (List Key × Tr)} : rdSl i (some (.own m (.dt ts))) = some (.o i) := rfl
@[simp] theorem okM_var_val {i : Nat} {Q : Rv → Rho → Prop} : okM (cVar i ρ) Q ↔ okO (rdSl i ρ[i]?) fun r => Q r ρ := by
  rw [varS]
  unfold rdSl
  split <;> simp
@[simp] theorem derS_d {d : PyData} : derS ρ (.d d) = some d := rfl
@[simp] theorem der_d {d : PyData} : der ρ (.d d) = some d := rfl
def dsSl (s : Option Sl) : Option PyData := match s with
    | some (.own _ (.lst ts)) => (flat ts).map .list
    | _ => none
def drSl (s : Option Sl) : Option PyData := match s with
    | some (.own _ t) => t.toD
    | _ => none
@[simp] theorem dsSl_lst {m : Md} {ts : List Tr} : dsSl (some (.own m (.lst ts))) = (flat ts).map .list := rfl
@[simp] theorem drSl_own {m : Md} {t : Tr} : drSl (some (.own m t)) = t.toD := rfl
@[simp] theorem derS_o {i : Nat} : derS ρ (.o i) = dsSl ρ[i]? := rfl
@[simp] theorem der_o {i : Nat} : der ρ (.o i) = drSl ρ[i]? := rfl
@[simp] theorem flat_nil : flat [] = some [] := rfl
@[simp] theorem flat_cons {d : PyData} {ts : List Tr} : flat (.dat d :: ts) = (flat ts).map (d :: ·) := rfl
@[simp] theorem flat_map {ds : List PyData} : flat (ds.map .dat) = some ds := flat_dat ds
@[simp] theorem toD_dat {d : PyData} : (Tr.dat d).toD = some d := by simp [Tr.toD]
@[simp] theorem toDs_map : ∀ {ds : List PyData}, Tr.toDs (ds.map .dat) = some ds
  | [] => by simp [Tr.toDs]
  | d :: ds => by simp [Tr.toDs, toDs_map (ds := ds)]
@[simp] theorem toDs_nil : Tr.toDs [] = some [] := by simp [Tr.toDs]
@[simp] theorem toDs_cons {d : PyData} {ts : List Tr} : Tr.toDs (.dat d :: ts) = (Tr.toDs ts).map (d :: ·) := by
  simp only [Tr.toDs, toD_dat]
  cases Tr.toDs ts <;> simp
@[simp] theorem toD_lst {ts : List Tr} : (Tr.lst ts).toD = (Tr.toDs ts).map .list := by simp [Tr.toD]
@[simp] theorem toD_tup {ts : List Tr} : (Tr.tup ts).toD = (Tr.toDs ts).map .tuple := by simp [Tr.toD]
@[simp] theorem asB_b {b : Bool} {r : Rv} (h : r = .d (.bool b)) : asB ρ r = some b := by rw [h]; rfl
@[simp] theorem datas_nil : datas [] = some [] := rfl
@[simp] theorem datas_cons {d : PyData} {rs : List Rv} : datas (.d d :: rs) = (datas rs).map (d :: ·) := rfl
theorem small_of {n : Nat} (h : n ≤ 16777216) : small n = true := small_iff.mpr (by rw [sizeLine_eq]; exact h)
@[simp] theorem small_lit {n : Nat} (h : n ≤ 16777216) : small n = true := small_of h
theorem lt_lim {i : Int} (h : -18446744073709551616 ≤ i) (h2 : i ≤ 18446744073709551616) : i.natAbs < lim := by
  have e : 18446744073709551616 < lim := by decide +kernel
  omega
@[simp] theorem addD_i {i j : Int} : addD (.int i) (.int j) = some (.int (i + j)) := rfl
@[simp] theorem subtD_i {i j : Int} : subtD (.int i) (.int j) = some (.int (i - j)) := rfl
theorem mulD_i {i j : Int} : mulD (.int i) (.int j) = if i.natAbs < lim ∧ j.natAbs < lim then some (.int (i * j)) else none := rfl
@[simp] theorem okO_mulD {i j : Int} {Q : PyData → Prop} : okO (mulD (.int i) (.int j)) Q ↔ (i.natAbs < lim ∧ j.natAbs < lim) ∧ Q (.int (i * j)) := by rw [mulD_i, okO_ite]
@[simp] theorem okO_modD {i j : Int} {Q : PyData → Prop} : okO (modD (.int i) (.int j)) Q ↔ 0 < j ∧ Q (.int (i % j)) := by
  show okO (if 0 < j then some (.int (i % j)) else none) Q ↔ _
  rw [okO_ite]
@[simp] theorem okO_fdivD {i j : Int} {Q : PyData → Prop} : okO (fdivD (.int i) (.int j)) Q ↔ (0 < j ∧ j.natAbs < lim) ∧ Q (.int (i / j)) := by
  show okO (if 0 < j ∧ j.natAbs < lim then some (.int (i / j)) else none) Q ↔ _
  rw [okO_ite]
@[simp] theorem okO_powD {i j : Int} {Q : PyData → Prop} : okO (powD (.int i) (.int j)) Q ↔ (0 ≤ j ∧ j ≤ 1000 ∧ i.natAbs < 1000000) ∧ Q (.int (i ^ j.toNat)) := by
  show okO (if 0 ≤ j ∧ j ≤ 1000 ∧ i.natAbs < 1000000 then some (.int (i ^ j.toNat)) else none) Q ↔ _
  rw [okO_ite]
@[simp] theorem icmp_i {p : Int → Int → Bool} {i j : Int} : icmp p (.int i) (.int j) = some (p i j) := rfl
@[simp] theorem addD_t {xs ys : List PyData} {Q : PyData → Prop} : okO (addD (.tuple xs) (.tuple ys)) Q ↔ small (xs.length + ys.length) = true ∧ Q (.tuple (xs ++ ys)) := by
  show okO (if small (xs.length + ys.length) then some (.tuple (xs ++ ys)) else none) Q ↔ _
  rw [okO_ite]
@[simp] theorem addD_l {xs ys : List PyData} {Q : PyData → Prop} : okO (addD (.list xs) (.list ys)) Q ↔ small (xs.length + ys.length) = true ∧ Q (.list (xs ++ ys)) := by
  show okO (if small (xs.length + ys.length) then some (.list (xs ++ ys)) else none) Q ↔ _
  rw [okO_ite]
@[simp] theorem subD_l {xs : List PyData} {i : Int} : subD (.list xs) (.int i) = atI xs i := rfl
@[simp] theorem subD_t {xs : List PyData} {i : Int} : subD (.tuple xs) (.int i) = atI xs i := rfl
@[simp] theorem subD_s {xs : List Int} {i : Int} : subD (scrD xs) (.int i) = (atI xs i).map .int := by
  show (atI (xs.map fun i => (PyData.int i, PyData.none)) i).map (·.1) = _
  rw [atI_map, Option.map_map]
  rfl
@[simp] theorem cutD_l {xs : List PyData} {lo hi : Option Int} : cutD (.list xs) lo hi = some (.list (cutL xs lo hi)) := rfl
@[simp] theorem cutD_t {xs : List PyData} {lo hi : Option Int} : cutD (.tuple xs) lo hi = some (.tuple (cutL xs lo hi)) := rfl
@[simp] theorem derSs_nil : derSs ρ [] = some [] := rfl
@[simp] theorem derSs_cons {r : Rv} {rs : List Rv} : derSs ρ (r :: rs) = match derS ρ r, derSs ρ rs with
  | some d, some ds => some (d :: ds)
  | _, _ => none := rfl
@[simp] theorem lenD_l {xs : List PyData} : lenD [.list xs] = some (.int xs.length) := rfl
@[simp] theorem lenD_t {xs : List PyData} : lenD [.tuple xs] = some (.int xs.length) := rfl
@[simp] theorem lenD_s {xs : List Int} : lenD [scrD xs] = some (.int xs.length) := by
  show some (PyData.int (xs.map fun i => (PyData.int i, PyData.none)).length) = _
  rw [List.length_map]
@[simp] theorem absD_i {i : Int} : absD [.int i] = some (.int (if i < 0 then -i else i)) := rfl
@[simp] theorem min2D_i {i j : Int} : min2D [.int i, .int j] = some (.int (if j < i then j else i)) := rfl
@[simp] theorem max2D_i {i j : Int} : max2D [.int i, .int j] = some (.int (if j > i then j else i)) := rfl
@[simp] theorem intD_i {i : Int} : intD [.int i] = some (.int i) := rfl
@[simp] theorem intD_b {b : Bool} : intD [.bool b] = some (.int (if b then 1 else 0)) := rfl
@[simp] theorem tupleD_l {xs : List PyData} : tupleD [.list xs] = some (.tuple xs) := rfl
@[simp] theorem tupleD_t {xs : List PyData} : tupleD [.tuple xs] = some (.tuple xs) := rfl
@[simp] theorem listD_l {xs : List PyData} : listD [.list xs] = some (.list xs) := rfl
@[simp] theorem listD_t {xs : List PyData} : listD [.tuple xs] = some (.list xs) := rfl
@[simp] theorem pinS_val {d : PyData} : pinS (.val d) = .val d := rfl
@[simp] theorem pinS_no : pinS .no = .no := rfl
@[simp] theorem pinS_free {t : Tr} : pinS (.own .free t) = .own .pin t := rfl
@[simp] theorem pinS_pin {t : Tr} : pinS (.own .pin t) = .own .pin t := rfl
@[simp] theorem pinS_lock {t : Tr} : pinS (.own .lock t) = .own .lock t := rfl
@[simp] theorem arg_free : Md.arg .free = .free := rfl
@[simp] theorem arg_pin : Md.arg .pin = .pin := rfl
@[simp] theorem arg_lock : Md.arg .lock = .lock := rfl
@[simp] theorem arg_bor {p : List Nat} : Md.arg (.bor p) = .lock := rfl
@[simp] theorem unb_free : Md.unb .free = .free := rfl
@[simp] theorem unb_pin : Md.unb .pin = .pin := rfl
@[simp] theorem unb_lock : Md.unb .lock = .lock := rfl
@[simp] theorem unb_bor {p : List Nat} : Md.unb (.bor p) = .pin := rfl
/-- free or pinned -/
def Md.ow : Md → Bool
  | .free => true
  | .pin => true
  | _ => false
@[simp] theorem ow_free : Md.ow .free = true := rfl
@[simp] theorem ow_pin : Md.ow .pin = true := rfl
theorem ow_arg : ∀ {m : Md}, m.ow = true → m.arg = m
  | .free, _ => rfl
  | .pin, _ => rfl
@[simp] theorem argSls_nil : argSls ρ [] = some [] := rfl
@[simp] theorem argSls_d {d : PyData} {rs : List Rv} : argSls ρ (.d d :: rs) = (argSls ρ rs).map (.val d :: ·) := by
  simp only [argSls, argSl]
  cases argSls ρ rs <;> rfl
@[simp] theorem argSls_o {i : Nat} {rs : List Rv} : argSls ρ (.o i :: rs) = match ρ[i]? with
    | some (.own m t) => (argSls ρ rs).map (.own m.arg t :: ·)
    | _ => none := by
  simp only [argSls, argSl]
  cases h : ρ[i]? with
  | none => rfl
  | some s => cases s <;> (try rfl); cases argSls ρ rs <;> rfl
@[simp] theorem oneEach_nil : oneEach [] = true := rfl
@[simp] theorem oneEach_d {d : PyData} {rs : List Rv} : oneEach (.d d :: rs) = oneEach rs := rfl
@[simp] theorem oneEach_o {j : Nat} {rs : List Rv} : oneEach (.o j :: rs) = ((posOf rs j).isNone && oneEach rs) := rfl
@[simp] theorem posOf_nil {i : Nat} : posOf [] i = none := rfl
@[simp] theorem posOf_d {d : PyData} {rs : List Rv} {i : Nat} : posOf (.d d :: rs) i = (posOf rs i).map (· + 1) := rfl
@[simp] theorem posOf_o {j : Nat} {rs : List Rv} {i : Nat} : posOf (.o j :: rs) i = if j = i then some 0 else (posOf rs i).map (· + 1) := rfl
@[simp] theorem allIn_nil {Ts : List Nat} : allIn Ts [] = true := rfl
@[simp] theorem allIn_d {Ts : List Nat} {d : PyData} {rs : List Rv} : allIn Ts (.d d :: rs) = allIn Ts rs := rfl
@[simp] theorem allIn_o {Ts : List Nat} {j : Nat} {rs : List Rv} : allIn Ts (.o j :: rs) = (Ts.contains j && allIn Ts rs) := rfl
@[simp] theorem mrg_nil {os : List Sl} : mrg [] os = [] := rfl
@[simp] theorem mrg_val {d : PyData} {as os : List Sl} : mrg (.val d :: as) os = .val d :: mrg as os.tail := rfl
@[simp] theorem mrg_own {m m' : Md} {t t' : Tr} {as os : List Sl} : mrg (.own m t :: as) (.own m' t' :: os) = .own m'.unb t' :: mrg as os := rfl
@[simp] theorem backOk_nil {os : List Sl} : backOk [] os = true := rfl
@[simp] theorem backOk_own {m m' : Md} {t t' : Tr} {as os : List Sl} : backOk (.own m t :: as) (.own m' t' :: os) = backOk as os := rfl
@[simp] theorem backOk_val {d : PyData} {s : Sl} {as os : List Sl} : backOk (.val d :: as) (s :: os) = backOk as os := rfl
@[simp] theorem wb_eq {rs : List Rv} {os : List Sl} : wb ρ rs os = wbGo rs os 0 ρ := rfl
@[simp] theorem wbGo_nil {rs : List Rv} {os : List Sl} {i : Nat} : wbGo rs os i [] = [] := rfl
@[simp] theorem wbGo_cons {rs : List Rv} {os : List Sl} {i : Nat} {s : Sl} : wbGo rs os i (s :: ρ) = (match posOf rs i with
    | some k => wb1 s os[k]?
    | none => s) :: wbGo rs os (i + 1) ρ := rfl
@[simp] theorem wb1_own {m m' : Md} {t t' : Tr} : wb1 (.own m t) (some (.own m' t')) = .own m t' := rfl
/-- frozen arguments alone: the caller's slots stay -/
theorem wbGo_no {rs : List Rv} {os : List Sl} (h : ∀ i, posOf rs i = none) : ∀ {ρ : Rho} {i : Nat}, wbGo rs os i ρ = ρ
  | [], _ => rfl
  | s :: ρ, i => by rw [wbGo_cons, h, wbGo_no h]
/-- a slot that may be set -/
def frB : Option Sl → Bool
  | some (.own .pin _) => false
  | some (.own .lock _) => false
  | some (.own (.bor _) _) => false
  | some _ => true
  | none => false
@[simp] theorem frB_al {i : Nat} {p : List Nat} : frB (some (.al i p)) = true := rfl
@[simp] theorem frB_bor {p : List Nat} {t : Tr} : frB (some (.own (.bor p) t)) = false := rfl
@[simp] theorem frB_no : frB (some .no) = true := rfl
@[simp] theorem frB_val {d : PyData} : frB (some (.val d)) = true := rfl
@[simp] theorem frB_free {t : Tr} : frB (some (.own .free t)) = true := rfl
@[simp] theorem frB_pin {t : Tr} : frB (some (.own .pin t)) = false := rfl
@[simp] theorem frB_lock {t : Tr} : frB (some (.own .lock t)) = false := rfl
@[simp] theorem setSl_eq {i : Nat} {s : Sl} : setSl ρ i s = if frB ρ[i]? = true then some (ρ.set i s) else none := by
  unfold setSl
  cases h : ρ[i]? with
  | none => rfl
  | some x =>
    cases x with
    | no => rfl
    | al _ _ => rfl
    | val d => rfl
    | own m t => cases m <;> rfl
@[simp] theorem okR_ite {c : Prop} [Decidable c] {a : Rho} {Q : Rho → Prop} : okR (if c then some a else none) Q ↔ c ∧ Q a := by
  by_cases h : c <;> simp [h]
@[simp] theorem gN_eq {i : Nat} {d : PyData} : gN i d ρ = setSl ρ i (.val d) := rfl
@[simp] theorem gT_eq {n : Nat} {Gs : MGs} {ds : List PyData} : gT n Gs (.tuple ds) ρ = if ds.length = n then Gs ds ρ else none := rfl
@[simp] theorem gsN_eq : gsN [] ρ = some ρ := rfl
@[simp] theorem gsC_eq {G : MG} {Gs : MGs} {d : PyData} {r : List PyData} : gsC G Gs (d :: r) ρ = match G d ρ with
    | some ρ1 => Gs r ρ1
    | none => none := rfl
@[simp] theorem okM_pVar {i : Nat} {Q : Nat × List Nat → Rho → Prop} : okM (pVar i ρ) Q ↔ okO (match ρ[i]? with
  | some (.own _ _) => some (i, ([] : List Nat))
  | _ => none) fun r => Q r ρ := by
  unfold pVar
  cases h : ρ[i]? with
  | none => simp
  | some s => cases s <;> simp
@[simp] theorem treeAt_eq {i : Nat} {p : List Nat} : treeAt ρ (i, p) = match ρ[i]? with
  | some (.own _ t) => t.at p
  | _ => none := rfl
@[simp] theorem at_nil {t : Tr} : t.at [] = some t := by cases t <;> rfl
@[simp] theorem at_cons {t : Tr} {j : Nat} {p : List Nat} : t.at (j :: p) = match (kids t)[j]? with
    | some k => k.at p
    | none => none := by cases t <;> rfl
@[simp] theorem put_nil {t t' : Tr} : t.put [] t' = t' := by cases t <;> rfl
@[simp] theorem put_cons {t t' : Tr} {j : Nat} {p : List Nat} : t.put (j :: p) t' = match (kids t)[j]? with
    | some k => setKid t j (k.put p t')
    | none => t := by cases t <;> rfl
@[simp] theorem kids_lst {ts : List Tr} : kids (.lst ts) = ts := rfl
@[simp] theorem kids_tup {ts : List Tr} : kids (.tup ts) = ts := rfl
@[simp] theorem setKid_lst {ts : List Tr} {j : Nat} {t : Tr} : setKid (.lst ts) j t = .lst (ts.set j t) := rfl
@[simp] theorem modeOk_eq {i : Nat} : modeOk ρ i = match ρ[i]? with
  | some (.own m _) => m.ow
  | _ => false := by
  unfold modeOk
  cases ρ[i]? with
  | none => rfl
  | some s => cases s with
    | own m t => cases m <;> rfl
    | _ => rfl
@[simp] theorem putAt_eq {i : Nat} {p : List Nat} {t' : Tr} : putAt ρ (i, p) t' = match ρ[i]? with
  | some (.own m t) => ρ.set i (.own m (t.put p t'))
  | _ => ρ := rfl
@[simp] theorem isLst_l {ts : List Tr} : isLst (some (.lst ts)) = true := rfl
theorem okM_pIx {T2 : List Nat} {f : M (Nat × List Nat)} {g : M Rv} {Q : Nat × List Nat → Rho → Prop} : okM (pIx T2 f g ρ) Q ↔ okM (f ρ) fun r ρ1 => okM (g ρ1) fun y ρ2 => T2.contains r.1 = false ∧ okO (match treeAt ρ2 r, y with
  | some (.lst ts), .d (.int n) => (ixN ts.length n)
  | some (.tup ts), .d (.int n) => (ixN ts.length n)
  | _, _ => none) fun j => Q (r.1, r.2 ++ [j]) ρ2 := by
  unfold pIx
  rw [okM_bnd]
  refine okM_congr fun r ρ1 => ?_
  rw [okM_bnd]
  refine okM_congr fun y ρ2 => ?_
  by_cases h : T2.contains r.1 = true
  · rw [if_pos h, h]
    simp
  · rw [if_neg h]
    have h' : T2.contains r.1 = false := by simpa using h
    simp only [h', true_and]
    split <;> (try split) <;> simp_all
@[simp] theorem okM_cLeaf {f : M (Nat × List Nat)} {Q : Rv → Rho → Prop} : okM (cLeaf f ρ) Q ↔ okM (f ρ) fun r ρ1 => okO (match treeAt ρ1 r with
  | some (.dat d) => some (Rv.d d)
  | _ => none) fun x => Q x ρ1 := by
  unfold cLeaf
  rw [okM_bnd]
  refine okM_congr fun r ρ1 => ?_
  split <;> simp_all
@[simp] theorem okM_cRev {f : M Rv} {Q : Rv → Rho → Prop} : okM (cRev f ρ) Q ↔ okM (f ρ) fun x ρ1 => okO (match x with
  | .d (.tuple ds) => some (Rv.d (.tuple ds.reverse))
  | _ => none) fun y => Q y ρ1 := by
  unfold cRev
  rw [okM_bnd]
  refine okM_congr fun x ρ1 => ?_
  unfold rev1
  split <;> simp_all
@[simp] theorem okM_cCnt {fo fe : M Rv} {Q : Rv → Rho → Prop} : okM (cCnt fo fe ρ) Q ↔ okM (fo ρ) fun x ρ1 => okO (match x with
  | .d (.list ds) => some ds
  | _ => none) fun ds => okM (fe ρ1) fun y ρ2 => okO (rvd y) fun e => (flatD e && ds.all flatD) = true ∧ Q (.d (.int (ds.countP (fun z => PyData.eqv z e) : Nat))) ρ2 := by
  unfold cCnt
  rw [okM_bnd]
  refine okM_congr fun x ρ1 => ?_
  split
  · rename_i ds
    simp only [okO_some]
    rw [okM_bnd]
    refine okM_congr fun y ρ2 => ?_
    unfold cCnt1
    cases y with
    | o i => simp [rvd]
    | d e =>
      simp only [rvd_d, okO_some]
      by_cases h : (flatD e && ds.all flatD) = true
      · rw [if_pos h]
        simp [h]
      · rw [if_neg h]
        simp [h]
  · simp_all
@[simp] theorem okM_cDIn {neg : Bool} {fk : M Rv} {f : M (Nat × List Nat)} {Q : Bool → Rho → Prop} : okM (cDIn neg fk f ρ) Q ↔ okM (fk ρ) fun y ρ1 => okM (f ρ1) fun r ρ2 => okO (rvd y) fun d => okO (treeAt ρ2 r) fun t => okO (dictAt t d) fun z => Q (if neg then !z.isSome else z.isSome) ρ2 := by
  unfold cDIn
  rw [okM_bnd]
  refine okM_congr fun y ρ1 => ?_
  rw [okM_bnd]
  refine okM_congr fun r ρ2 => ?_
  unfold dIn1
  cases y with
  | o i => simp [rvd]
  | d d =>
    cases h : treeAt ρ2 r with
    | none => simp
    | some t =>
      simp only [rvd_d, okO_some]
      cases h2 : dictAt t d <;> simp
@[simp] theorem okM_cDGet {T2 : List Nat} {f : M (Nat × List Nat)} {fk : M Rv} {Q : Rv → Rho → Prop} : okM (cDGet T2 f fk ρ) Q ↔ okM (f ρ) fun r ρ1 => okM (fk ρ1) fun y ρ2 => T2.contains r.1 = false ∧ okO (rvd y) fun d => okO (treeAt ρ2 r) fun t => okO (dictAt t d) fun z => okO z fun z => Q (.d z) ρ2 := by
  unfold cDGet
  rw [okM_bnd]
  refine okM_congr fun r ρ1 => ?_
  rw [okM_bnd]
  refine okM_congr fun y ρ2 => ?_
  unfold dGet1
  by_cases hc : T2.contains r.1 = true
  · rw [if_pos hc, hc]
    simp
  · have hc' : T2.contains r.1 = false := by simpa using hc
    rw [if_neg hc]
    simp only [hc', true_and]
    cases y with
    | o i => simp [rvd]
    | d d =>
      cases h : treeAt ρ2 r with
      | none => simp
      | some t =>
        simp only [rvd_d, okO_some]
        cases h2 : dictAt t d with
        | none => simp
        | some z => cases z <;> simp
@[simp] theorem okM_cDGet2 {T2 : List Nat} {f : M (Nat × List Nat)} {fk fx : M Rv} {Q : Rv → Rho → Prop} : okM (cDGet2 T2 f fk fx ρ) Q ↔ okM (f ρ) fun r ρ1 => isDk (treeAt ρ1 r) = true ∧ okM (fk ρ1) fun y ρ2 => okM (fx ρ2) fun x ρ3 => T2.contains r.1 = false ∧ okO (rvd y) fun d => okO (rvd x) fun u => okO (treeAt ρ3 r) fun t => okO (dictAt t d) fun z => Q (.d (z.getD u)) ρ3 := by
  unfold cDGet2
  rw [okM_bnd]
  refine okM_congr fun r ρ1 => ?_
  by_cases hd : isDk (treeAt ρ1 r) = true
  · rw [if_pos hd]
    simp only [hd, true_and]
    rw [okM_bnd]
    refine okM_congr fun y ρ2 => ?_
    rw [okM_bnd]
    refine okM_congr fun x ρ3 => ?_
    unfold dGet2
    by_cases hc : T2.contains r.1 = true
    · rw [if_pos hc, hc]
      simp
    · have hc' : T2.contains r.1 = false := by simpa using hc
      rw [if_neg hc]
      simp only [hc', true_and]
      cases y with
      | o i => simp [rvd]
      | d d =>
        cases x with
        | o i => simp [rvd]
        | d u =>
          cases h : treeAt ρ3 r with
          | none => simp
          | some t =>
            simp only [rvd_d, okO_some]
            cases h2 : dictAt t d <;> simp
  · rw [if_neg hd]
    simp [hd]
@[simp] theorem okM_nNew {t : Tr} {Q : Tr → Rho → Prop} : okM (nNew t ρ) Q ↔ Q t ρ := okM_ok
/-! statements with places -/
theorem okS_app {T2 : List Nat} {f : M (Nat × List Nat)} {g : M Tr} (h : okM (f ρ) fun r ρ1 => isLst (treeAt ρ1 r) = true ∧ okM (g ρ1) fun t ρ2 => (T2.contains r.1 = false ∧ modeOk ρ2 r.1 = true) ∧ ∃ ts, treeAt ρ2 r = some (.lst ts) ∧ small (ts.length + 1) = true ∧ P (.nx (putAt ρ2 r (.lst (ts ++ [t]))))) : okS (sApp T2 f g ρ) P := by
  refine okS_E' (okM_mono h fun r ρ1 p => ?_)
  rw [if_pos p.1]
  refine okS_E' (okM_mono p.2 fun t ρ2 p => ?_)
  obtain ⟨⟨p1, p2⟩, ts, p3, p4, p5⟩ := p
  unfold app1
  simp only [p1, p2, p3, p4, Bool.not_true, Bool.or_false, Bool.false_eq_true, if_false, if_true]
  exact okS_some.mpr p5
theorem okS_ext {T2 : List Nat} {f : M (Nat × List Nat)} {g : M Rv} (h : okM (f ρ) fun r ρ1 => isLst (treeAt ρ1 r) = true ∧ okM (g ρ1) fun x ρ2 => (T2.contains r.1 = false ∧ modeOk ρ2 r.1 = true) ∧ ∃ ts ds, treeAt ρ2 r = some (.lst ts) ∧ x = .d (.list ds) ∧ small (ts.length + ds.length) = true ∧ P (.nx (putAt ρ2 r (.lst (ts ++ ds.map .dat))))) : okS (sExt T2 f g ρ) P := by
  refine okS_E' (okM_mono h fun r ρ1 p => ?_)
  rw [if_pos p.1]
  refine okS_E' (okM_mono p.2 fun t ρ2 p => ?_)
  obtain ⟨⟨p1, p2⟩, ts, ds, p3, rfl, p4, p5⟩ := p
  unfold ext1
  simp only [p1, p2, p3, p4, Bool.not_true, Bool.or_false, Bool.false_eq_true, if_false, if_true]
  exact okS_some.mpr p5
theorem okS_setIx {T2 : List Nat} {fe fi : M Rv} {f : M (Nat × List Nat)} (h : okM (fe ρ) fun x ρ1 => okO (rvd x) fun d => okM (f ρ1) fun r ρ2 => okM (fi ρ2) fun y ρ3 => (T2.contains r.1 = false ∧ modeOk ρ3 r.1 = true) ∧ okO (rvi y) fun n => ∃ ts, treeAt ρ3 r = some (.lst ts) ∧ okO (ixN ts.length n) fun j => P (.nx (putAt ρ3 r (.lst (ts.set j (.dat d)))))) : okS (sSetIx T2 fe f fi ρ) P := by
  refine okS_E' (okM_mono h fun x ρ1 p => ?_)
  cases x with
  | o i => simp [rvd] at p
  | d d =>
    simp only [rvd_d, okO_some] at p
    refine okS_E' (okM_mono p fun r ρ2 p => ?_)
    refine okS_E' (okM_mono p fun y ρ3 p => ?_)
    obtain ⟨⟨p1, p2⟩, n, hn, ts, p3, j, p4, p5⟩ := p
    unfold setIx1
    simp only [p1, p2, Bool.not_true, Bool.or_false, Bool.false_eq_true, if_false]
    rw [p3]
    have hy : y = .d (.int n) := by
      cases y with
      | o _ => cases hn
      | d y => cases y <;> cases hn; rfl
    subst hy
    simp only [p4]
    exact okS_some.mpr p5
theorem okS_dput {T2 : List Nat} {fe fk : M Rv} {f : M (Nat × List Nat)} (h : okM (fe ρ) fun x ρ1 => okO (rvd x) fun d => okM (f ρ1) fun r ρ2 => okM (fk ρ2) fun y ρ3 => okS (dPut1 T2 d r y ρ3) P) : okS (sDPut T2 fe f fk ρ) P := by
  refine okS_E' (okM_mono h fun x ρ1 p => ?_)
  cases x with
  | o i => simp [rvd] at p
  | d d =>
    simp only [rvd_d, okO_some] at p
    refine okS_E' (okM_mono p fun r ρ2 p => ?_)
    exact okS_E' (okM_mono p fun y ρ3 p => p)
@[simp] theorem okS_retV {i : Nat} : okS (sRetV i ρ) P ↔ okO (match ρ[i]? with
  | some (.val d) => some (Out.rt (.dat d) ρ)
  | some (.own .free t) => some (.rt t (ρ.set i .no))
  | _ => none) P := Iff.rfl
theorem okS_aug {i : Nat} {f : Int → Int → Int} {fa : M Rv} {a : Int} (hi : ρ[i]? = some (.val (.int a)) ∨ ∃ m, ρ[i]? = some (.own m (.dat (.int a)))) (h : okM (fa ρ) fun y ρ1 => okO (rvi y) fun b => okR (setSl ρ1 i (.val (.int (f a b)))) fun ρ2 => P (.nx ρ2)) : okS (sAug i f fa ρ) P := by
  unfold sAug
  have go : okS (sE fa (augI i f a) ρ) P := by
    refine okS_E' (okM_mono h fun y ρ1 p => ?_)
    obtain ⟨b, hb, p⟩ := p
    have hy : y = .d (.int b) := by
      cases y with
      | o _ => cases hb
      | d y => cases y <;> cases hb; rfl
    subst hy
    exact okS_putD.mpr p
  rcases hi with e | ⟨m, e⟩ <;> rw [e] <;> exact go
@[simp] theorem okS_bk : okS (sBk ρ) P ↔ P (.bk ρ) := okS_some
@[simp] theorem okS_ct : okS (sCt ρ) P ↔ P (.ct ρ) := okS_some
theorem okS_drop {f : M Rv} (h : okM (f ρ) fun _ ρ1 => P (.nx ρ1)) : okS (sDrop f ρ) P := okS_E' (okM_mono h fun _ _ p => okS_some.mpr p)
theorem okS_fz {i : Nat} {g : MS} (h : okR (frzSl ρ i) fun ρ1 => okS (g ρ1) P) : okS (sFz i g ρ) P := by
  obtain ⟨ρ1, e, p⟩ := h
  unfold sFz
  rw [e]
  exact p
@[simp] theorem frzSl_eq {i : Nat} : frzSl ρ i = match ρ[i]? with
  | some (.own .free t) => (t.toD).map fun d => ρ.set i (.val d)
  | some (.val _) => some ρ
  | _ => none := rfl
/-! what is walked -/
@[simp] theorem okM_iEnumD {f : M (List Rv)} {Q : List PyData → Rho → Prop} : okM (iEnumD f ρ) Q ↔ okM (f ρ) fun rs ρ1 => okO (match rs with
  | [.d (.list xs)] => some (enumD xs)
  | [.d (.tuple xs)] => some (enumD xs)
  | _ => none) fun xs => Q xs ρ1 := by
  unfold iEnumD
  rw [okM_bnd]
  refine okM_congr fun rs ρ1 => ?_
  split <;> simp
@[simp] theorem okM_iZipD {f : M (List Rv)} {Q : List PyData → Rho → Prop} : okM (iZipD f ρ) Q ↔ okM (f ρ) fun rs ρ1 => okO (match rs with
  | [.d (.list xs), .d (.list ys)] => some (zipD xs ys)
  | [.d (.tuple xs), .d (.tuple ys)] => some (zipD xs ys)
  | _ => none) fun xs => Q xs ρ1 := by
  unfold iZipD
  rw [okM_bnd]
  refine okM_congr fun rs ρ1 => ?_
  split <;> simp
/-! comprehensions -/
theorem okM_comp {fi : M (List PyData)} {vs : List Nat} {G : MG} {tt : M Bool} {te : M Rv} {Q : Tr → Rho → Prop} (h : okM (fi ρ) fun xs ρ1 => noOwn ρ1 vs = true ∧ okO (compGo vs G tt te xs [] (wipeR ρ1 vs)) fun p => noOwn p.2 vs = true ∧ Q (.lst (p.1.map .dat)) (restR ρ1 p.2 vs)) : okM (nComp fi vs G tt te ρ) Q := by
  unfold nComp
  rw [okM_bnd]
  refine okM_mono h fun xs ρ1 p => ?_
  obtain ⟨p1, ⟨ds, ρ2⟩, e, p2, p3⟩ := p
  unfold comp1
  rw [if_pos p1, e]
  simp only [p2, if_true]
  exact okM_ok.mpr p3
/-- a comprehension whose turns leave the slots as they are: a map with a sieve -/
theorem compGo_pure {vs : List Nat} {G : MG} {tt : M Bool} {te : M Rv} {ρ0 : Rho} (p : PyData → Bool) (f : PyData → PyData) : ∀ (xs acc : List PyData), (acc.length + xs.length ≤ 16777216) → (∀ x ∈ xs, okR (G x ρ0) fun ρ1 => okM (tt ρ1) fun b ρ2 => b = p x ∧ if b = true then okM (te ρ2) fun r ρ3 => r = .d (f x) ∧ noOwn ρ3 vs = true ∧ wipeR ρ3 vs = ρ0 else noOwn ρ2 vs = true ∧ wipeR ρ2 vs = ρ0) →
    compGo vs G tt te xs acc ρ0 = some (acc ++ (xs.filter p).map f, ρ0)
  | [], acc, _, _ => by simp [compGo]
  | x :: xs, acc, hl, h => by
    have again := fun acc' hl' => compGo_pure (vs := vs) (G := G) (tt := tt) (te := te) (ρ0 := ρ0) p f xs acc' hl' fun y hy => h y (List.mem_cons_of_mem _ hy)
    obtain ⟨ρ1, e1, b, ρ2, e2, hb, p2⟩ := h x (List.mem_cons_self)
    unfold compGo
    rw [e1]
    simp only
    rw [e2]
    simp only [List.length_cons] at hl
    cases b with
    | true =>
      obtain ⟨r, ρ3, e3, rfl, p3, p4⟩ := (by simpa using p2 : okM (te ρ2) _)
      simp only [e3, p3, p4, small_of (show acc.length + 1 ≤ 16777216 by omega), Bool.and_self, if_true]
      rw [again (acc ++ [f x]) (by simp; omega)]
      simp [List.filter_cons, ← hb]
    | false =>
      obtain ⟨p3, p4⟩ := (by simpa using p2 : noOwn ρ2 vs = true ∧ wipeR ρ2 vs = ρ0)
      simp only [p3, p4, if_true]
      rw [again acc (by omega)]
      simp [List.filter_cons, ← hb]
@[simp] theorem noOwn_nil : noOwn ρ [] = true := rfl
@[simp] theorem noOwn_cons {i : Nat} {vs : List Nat} : noOwn ρ (i :: vs) = ((match ρ[i]? with
    | some (.own _ _) => false
    | some (.al _ _) => false
    | _ => true) && noOwn ρ vs) := rfl
@[simp] theorem wipeR_nil : wipeR ρ [] = ρ := rfl
@[simp] theorem wipeR_cons {i : Nat} {vs : List Nat} : wipeR ρ (i :: vs) = (wipeR ρ vs).set i .no := rfl
@[simp] theorem restR_nil {ρ0 : Rho} : restR ρ0 ρ [] = ρ := rfl
@[simp] theorem restR_cons {ρ0 : Rho} {i : Nat} {vs : List Nat} : restR ρ0 ρ (i :: vs) = match ρ0[i]? with
    | some s => (restR ρ0 ρ vs).set i s
    | none => restR ρ0 ρ vs := rfl
@[simp] theorem okM_tYes {Q : Bool → Rho → Prop} : okM (tYesM ρ) Q ↔ Q true ρ := okM_ok
/-! while: a measure -/
theorem okS_loopW {c : M Bool} {body : MS} (J : Nat → Rho → Prop) (hs : ∀ k ρ, J k ρ → okM (c ρ) fun b ρ1 => if b = true then ∃ k', k = k' + 1 ∧ okS (body ρ1) (turn (J k') P) else P (.nx ρ1)) : ∀ (n k : Nat) (ρ : Rho), k < n → J k ρ → okS (loopW c body n ρ) P
  | 0, _, _, h, _ => absurd h (Nat.not_lt_zero _)
  | n + 1, k, ρ, hk, hj => by
    obtain ⟨b, ρ1, e, p⟩ := hs k ρ hj
    unfold loopW
    rw [e]
    cases b with
    | false => exact okS_some.mpr (by simpa using p)
    | true =>
      obtain ⟨k', rfl, o, e2, q⟩ := (by simpa using p : ∃ k', k = k' + 1 ∧ okS (body ρ1) (turn (J k') P))
      simp only
      rw [e2]
      cases o with
      | nx ρ2 => exact okS_loopW J hs n k' ρ2 (by omega) q
      | ct ρ2 => exact okS_loopW J hs n k' ρ2 (by omega) q
      | bk ρ2 => exact okS_some.mpr q
      | rt t ρ2 => exact okS_some.mpr q
      | ex t ρ2 => exact okS_some.mpr q
theorem okS_while {n : Nat} {c : M Bool} {body : MS} (J : Nat → Rho → Prop) (k : Nat) (hk : k < n) (h0 : J k ρ) (hs : ∀ k ρ, J k ρ → okM (c ρ) fun b ρ1 => if b = true then ∃ k', k = k' + 1 ∧ okS (body ρ1) (turn (J k') P) else P (.nx ρ1)) : okS (sWhile n c body ρ) P := okS_loopW J hs n k ρ hk h0
/-! list(zip), list * int, sorted, insert, place[i] op= e -/
@[simp] theorem okM_cListZip {f : M (List Rv)} {Q : Rv → Rho → Prop} : okM (cListZip f ρ) Q ↔ okM (f ρ) fun rs ρ1 => okM (lzip1 rs ρ1) Q := by
  unfold cListZip
  rw [okM_bnd]
@[simp] theorem okM_lzip1 {x y : Rv} {Q : Rv → Rho → Prop} : okM (lzip1 [x, y] ρ) Q ↔ ∃ ds es, derS ρ x = some (.list ds) ∧ derS ρ y = some (.list es) ∧ ds.length = es.length ∧ Q (.d (.list (zipP ds es))) ρ := by
  unfold lzip1
  simp only
  constructor
  · intro h
    split at h
    · rename_i ds es h1 h2
      split at h
      · rename_i hl
        exact ⟨ds, es, h1, h2, hl, okM_ok.mp h⟩
      · exact (okM_none.mp h).elim
    · exact (okM_none.mp h).elim
  · rintro ⟨ds, es, h1, h2, hl, q⟩
    simp only [h1, h2, hl, if_true]
    exact okM_ok.mpr q
@[simp] theorem okM_nRep {fa fb : M Rv} {Q : Tr → Rho → Prop} : okM (nRep fa fb ρ) Q ↔ okM (fa ρ) fun x ρ1 => okM (fb ρ1) fun y ρ2 => okM (rep1 x y ρ2) Q := by
  unfold nRep
  simp only [okM_bnd]
@[simp] theorem okM_rep1 {ds : List PyData} {k : Int} {Q : Tr → Rho → Prop} : okM (rep1 (.d (.list ds)) (.d (.int k)) ρ) Q ↔ repOk ds k = true ∧ Q (.lst ((repL ds k).map .dat)) ρ := by
  unfold rep1
  simp only [derS_d]
  by_cases h : repOk ds k = true
  · rw [if_pos h]; simp [h]
  · rw [if_neg h]; simp [h]
@[simp] theorem okO_repD {ds : List PyData} {k : Int} {Q : PyData → Prop} : okO (repD (.list ds) (.int k)) Q ↔ repOk ds k = true ∧ Q (.list (repL ds k)) := by
  show okO (if repOk ds k then some (.list (repL ds k)) else none) Q ↔ _
  rw [okO_ite]
@[simp] theorem okO_sortedD {ds : List PyData} {Q : PyData → Prop} : okO (sortedD [.list ds]) Q ↔ sortOk ds = true ∧ Q (.list (sortL ds)) := by
  show okO (if sortOk ds then some (.list (sortL ds)) else none) Q ↔ _
  rw [okO_ite]
@[simp] theorem okO_sumD {ds : List PyData} {Q : PyData → Prop} : okO (sumD [.list ds]) Q ↔ okO (intsD ds) fun ns => Q (.int ns.sum) := by
  show okO ((intsD ds).map fun ns => .int ns.sum) Q ↔ _
  rw [okO_map]
@[simp] theorem intsD_map {ns : List Int} : intsD (ns.map .int) = some ns := by
  induction ns with
  | nil => rfl
  | cons n ns ih => simp [intsD, ih]
theorem okS_ins {T2 : List Nat} {f : M (Nat × List Nat)} {g : M (List Rv)} (h : okM (f ρ) fun r ρ1 => isLst (treeAt ρ1 r) = true ∧ okM (g ρ1) fun rs ρ2 => okS (ins1 T2 r rs ρ2) P) : okS (sIns T2 f g ρ) P := by
  refine okS_E' (okM_mono h ?_)
  rintro r ρ1 ⟨p1, p2⟩
  rw [if_pos p1]
  exact okS_E' (okM_mono p2 fun rs ρ2 p => p)
theorem okS_ins1 {T2 : List Nat} {r : Nat × List Nat} {i : Int} {d : PyData} {ds : List PyData} (hT : T2.contains r.1 = false) (hm : modeOk ρ r.1 = true) (ht : treeAt ρ r = some (.lst (ds.map .dat))) (hz : ds.length + 1 ≤ 16777216) (h0 : 0 ≤ i) (h1 : i < 2 ^ 63)
    (h : P (.nx (putAt ρ r (.lst ((insL ds i d).map .dat))))) : okS (ins1 T2 r [.d (.int i), .d d] ρ) P := by
  unfold ins1
  simp only [hT, hm, Bool.not_true, Bool.or_false, Bool.false_eq_true, if_false, ht, flat_map]
  rw [if_pos (by rw [small_of hz, Bool.true_and]; exact decide_eq_true ⟨h0, h1⟩)]
  exact okS_some.mpr h
theorem okS_augIx {T2 T3 : List Nat} {f : Int → Int → Int} {fo : M (Nat × List Nat)} {fi fe : M Rv} (h : okM (fo ρ) fun r ρ1 => okM (fi ρ1) fun y ρ2 => okS (aug1 T2 T3 f r fe y ρ2) P) : okS (sAugIx T2 T3 f fo fi fe ρ) P :=
  okS_E' (okM_mono h fun r ρ1 p => okS_E' (okM_mono p fun y ρ2 q => q))
theorem okS_aug1 {T2 T3 : List Nat} {f : Int → Int → Int} {r : Nat × List Nat} {fe : M Rv} {n : Int} {ds : List PyData} {j : Int} (hT : T2.contains r.1 = false) (ht : treeAt ρ r = some (.lst (ds.map .dat))) (h0 : 0 ≤ n) (hj : ds[n.toNat]? = some (.int j))
    (h : okM (fe ρ) fun y ρ1 => okO (rvi y) fun k => (T3.contains r.1 = false ∧ modeOk ρ1 r.1 = true) ∧ P (.nx (putAt ρ1 r (.lst ((ds.set n.toNat (.int (f j k))).map .dat))))) : okS (aug1 T2 T3 f r fe (.d (.int n)) ρ) P := by
  unfold aug1
  simp only [hT, Bool.false_eq_true, if_false, ht, flat_map]
  rw [if_pos h0]
  simp only [hj]
  refine okS_E' (okM_mono h fun y ρ1 p => ?_)
  obtain ⟨k, hk, ⟨p1, p2⟩, p3⟩ := p
  have hy : y = .d (.int k) := by
    cases y with
    | o _ => cases hk
    | d y => cases y <;> cases hk; rfl
  subst hy
  unfold aug2
  simp only [p1, p2, Bool.not_true, Bool.or_false, Bool.false_eq_true, if_false]
  exact okS_some.mpr p3
@[simp] theorem okM_iOwn {i : Nat} {Q : List PyData → Rho → Prop} : okM (iOwn i ρ) Q ↔ okO (match ρ[i]? with
  | some (.own _ (.lst ts)) => flat ts
  | _ => none) fun xs => Q xs ρ := by
  unfold iOwn
  cases h : ρ[i]? with
  | none => simp
  | some s =>
    cases s with
    | no => simp
    | al _ _ => simp
    | val d => simp
    | own m t =>
      cases t with
      | lst ts => cases hf : flat ts <;> simp [hf]
      | _ => simp
@[simp] theorem okM_nListZip {f : M (List Rv)} {Q : Tr → Rho → Prop} : okM (nListZip f ρ) Q ↔ okM (f ρ) fun rs ρ1 => okM (nzip1 rs ρ1) Q := by
  unfold nListZip
  rw [okM_bnd]
@[simp] theorem okM_nzip1 {x y : Rv} {Q : Tr → Rho → Prop} : okM (nzip1 [x, y] ρ) Q ↔ ∃ ds es, derS ρ x = some (.list ds) ∧ derS ρ y = some (.list es) ∧ ds.length = es.length ∧ Q (.lst ((zipP ds es).map .dat)) ρ := by
  unfold nzip1
  simp only
  constructor
  · intro h
    split at h
    · rename_i ds es h1 h2
      split at h
      · rename_i hl
        exact ⟨ds, es, h1, h2, hl, okM_ok.mp h⟩
      · exact (okM_none.mp h).elim
    · exact (okM_none.mp h).elim
  · rintro ⟨ds, es, h1, h2, hl, q⟩
    simp only [h1, h2, hl, if_true]
    exact okM_ok.mpr q
@[simp] theorem okM_nCat {fa fb : M Rv} {Q : Tr → Rho → Prop} : okM (nCat fa fb ρ) Q ↔ okM (fa ρ) fun x ρ1 => okM (fb ρ1) fun y ρ2 => okM (cat1 x y ρ2) Q := by
  unfold nCat
  simp only [okM_bnd]
theorem okM_cat1 {x y : Rv} {as bs : List PyData} {Q : Tr → Rho → Prop} (hx : derS ρ x = some (.list as)) (hy : derS ρ y = some (.list bs)) (hl : as.length + bs.length ≤ 16777216) (k : Q (.lst ((as ++ bs).map .dat)) ρ) : okM (cat1 x y ρ) Q := by
  unfold cat1
  simp only [hx, hy, small_of hl, if_true]
  exact okM_ok.mpr k
@[simp] theorem okM_nDT {fk fv : M Rv} {Q : Tr → Rho → Prop} : okM (nDT fk fv ρ) Q ↔ okM (fk ρ) fun x ρ1 => okM (fv ρ1) fun y ρ2 => okM (mkDT x y ρ2) Q := by
  unfold nDT
  simp only [okM_bnd]
theorem okM_mkDT {kd d : PyData} {ks : List Key} {Q : Tr → Rho → Prop} (h : keyT kd = some ks) (k : Q (.dt [(ks, .dat d)]) ρ) : okM (mkDT (.d kd) (.d d) ρ) Q := by
  unfold mkDT
  simp only [h]
  exact okM_ok.mpr k
@[simp] theorem okM_nCallT {F : Fn} {g : M Tr} {Q : Tr → Rho → Prop} : okM (nCallT F g ρ) Q ↔ okM (g ρ) fun t ρ1 => okF (F [.own .free t]) fun r _ => Q r ρ1 := by
  unfold nCallT
  rw [okM_bnd]
  refine okM_congr fun t ρ1 => ?_
  unfold call1T
  constructor
  · intro h
    split at h
    · rename_i r outs e
      exact ⟨r, outs, e, okM_ok.mp h⟩
    · exact (okM_none.mp h).elim
  · rintro ⟨r, outs, e, h⟩
    rw [e]
    exact okM_ok.mpr h
theorem okM_pop {i : Nat} {T2 : List Nat} {g : M (List Rv)} {m : Md} {ds : List PyData} {d : PyData} {Q : Rv → Rho → Prop} (hi : ρ[i]? = some (.own m (.lst (ds.map .dat)))) (hm : m.ow = true) (hT : T2.contains i = false) (hg : g ρ = some (.ok [.d (.int 0)] ρ)) (hd : ds[0]? = some d)
    (k : Q (.d d) (ρ.set i (.own m (.lst ((ds.eraseIdx 0).map .dat))))) : okM (cPop i T2 g ρ) Q := by
  unfold cPop
  have ht : treeAt ρ (i, []) = some (.lst (ds.map .dat)) := by rw [treeAt_eq, hi]; exact at_nil
  have hmo : modeOk ρ i = true := by
    rw [modeOk_eq, hi]
    cases m <;> first | rfl | cases hm
  rw [ht, isLst_l, if_pos rfl]
  unfold bnd
  rw [hg]
  simp only
  unfold pop1
  simp only [hT, hmo, Bool.not_true, Bool.or_false, Bool.false_eq_true, if_false, ht, flat_map]
  rw [if_pos (by omega)]
  simp only [Int.toNat_zero, hd]
  rw [okM_ok, putAt_eq, hi]
  simp only [put_nil]
  exact k
@[simp] theorem rdSl_fk {i : Nat} {m : Md} {ts : List (Key × PyData)} : rdSl i (some (.own m (.fk ts))) = some (.o i) := rfl
@[simp] theorem okM_cSortDI {f : M (Nat × List Nat)} {Q : Rv → Rho → Prop} : okM (cSortDI f ρ) Q ↔ okM (f ρ) fun r ρ1 => okO (match treeAt ρ1 r with
  | some (.dk kvs) => intKeys kvs
  | _ => none) fun ks => Q (.d (.list ((sortI ks).map .int))) ρ1 := by
  unfold cSortDI
  rw [okM_bnd]
  refine okM_congr fun r ρ1 => ?_
  cases h : treeAt ρ1 r with
  | none => simp
  | some t =>
    cases t with
    | dk kvs =>
      simp only
      cases hk : intKeys kvs <;> simp
    | _ => simp
theorem okM_lock {i : Nat} {f : M Tr} {Q : Tr → Rho → Prop} {m : Md} {ts : List (Key × Tr)} {ds : List (Key × PyData)} (hi : ρ[i]? = some (.own m (.dk ts))) (hm : m.ow = true) (hd : dats ts = some ds) (k : okM (f (ρ.set i (.own .lock (.fk ds)))) fun t ρ2 => Q t (ρ2.set i (.own m (.dk ts)))) : okM (nLock i f ρ) Q := by
  obtain ⟨t, ρ2, e, q⟩ := k
  have hmo : modeOk ρ i = true := by
    rw [modeOk_eq, hi]
    cases m <;> first | rfl | cases hm
  refine ⟨t, ρ2.set i (.own m (.dk ts)), ?_, q⟩
  unfold nLock lockS
  simp only [hmo, if_true, hi, hd, e]
theorem iKeyF_own {i : Nat} {m : Md} {ds : List (Key × PyData)} (h : ρ[i]? = some (.own m (.fk ds))) : iKeyF i ρ = some (.ok (ds.map fun kv => keyPD kv.1) ρ) := by
  unfold iKeyF
  rw [h]
@[simp] theorem okO_maxTD {d : PyData} {ds : List PyData} {Q : PyData → Prop} : okO (maxTD [.list (d :: ds)]) Q ↔ maxOk (d :: ds) = true ∧ Q (PySem.W.maxD d ds) := by
  show okO (if maxOk (d :: ds) then some (PySem.W.maxD d ds) else none) Q ↔ _
  rw [okO_ite]
theorem okM_cOrT {fa fb : M Rv} {Q : Rv → Rho → Prop} {d : PyData} {b : Bool} (ha : fa ρ = some (.ok (.d d) ρ)) (hb : truD d = some b) (k : if b = true then Q (.d d) ρ else okM (fb ρ) Q) : okM (cOrT fa fb ρ) Q := by
  unfold cOrT
  rw [okM_bnd, ha, okM_ok]
  simp only [hb]
  cases b with
  | true => exact okM_ok.mpr (by simpa using k)
  | false => simpa using k
/-! several trees -/
@[simp] theorem okM_tNilM {Q : List Tr → Rho → Prop} : okM (tNilM ρ) Q ↔ Q [] ρ := okM_ok
@[simp] theorem okM_tConsM {f : M Tr} {g : M (List Tr)} {Q : List Tr → Rho → Prop} : okM (tConsM f g ρ) Q ↔ okM (f ρ) fun t ρ1 => okM (g ρ1) fun ts ρ2 => Q (t :: ts) ρ2 := by
  unfold tConsM
  simp only [okM_bnd, okM_ret]
theorem okM_small {n : Nat} {t : Tr} {Q : Tr → Rho → Prop} : okM (if small n then some (Er.ok t ρ) else none) Q ↔ small n = true ∧ Q t ρ := by
  split <;> simp_all
@[simp] theorem okM_nTupT {f : M (List Tr)} {Q : Tr → Rho → Prop} : okM (nTupT f ρ) Q ↔ okM (f ρ) fun ts ρ1 => (small ts.length = true ∧ ts.any isNode = true) ∧ Q (.tup ts) ρ1 := by
  unfold nTupT
  simp only [okM_bnd]
  refine okM_congr fun ts ρ1 => ?_
  rw [← Bool.and_eq_true]
  split <;> simp_all
@[simp] theorem isNode_lst {ts : List Tr} : isNode (.lst ts) = true := rfl
@[simp] theorem isNode_tup {ts : List Tr} : isNode (.tup ts) = true := rfl
@[simp] theorem isNode_dat {d : PyData} : isNode (.dat d) = false := rfl
@[simp] theorem okM_nLstT {f : M (List Tr)} {Q : Tr → Rho → Prop} : okM (nLstT f ρ) Q ↔ okM (f ρ) fun ts ρ1 => small ts.length = true ∧ Q (.lst ts) ρ1 := by
  unfold nLstT
  simp only [okM_bnd, okM_small]
theorem okS_loopT_nil {i : Nat} {body : MS} : okS (loopT i body [] ρ) P ↔ P (.nx ρ) := okS_some
theorem okS_loopT_cons {i : Nat} {body : MS} {t : Tr} {ts : List Tr} (h : okR (setSl ρ i (.own .free t)) fun ρ1 => okS (body ρ1) (turn (fun ρ2 => okS (loopT i body ts ρ2) P) P)) : okS (loopT i body (t :: ts) ρ) P := by
  obtain ⟨ρ1, e1, o, e2, p⟩ := h
  unfold loopT
  rw [e1]
  simp only
  rw [e2]
  cases o with
  | nx ρ2 => exact p
  | ct ρ2 => exact p
  | bk ρ2 => exact ⟨_, rfl, p⟩
  | rt t ρ2 => exact ⟨_, rfl, p⟩
  | ex c ρ2 => exact ⟨_, rfl, p⟩
theorem okS_forT {fs : M (List Tr)} {i : Nat} {body : MS} (h : okM (fs ρ) fun ts ρ1 => small ts.length = true ∧ okS (loopT i body ts ρ1) P) : okS (sForT fs i body ρ) P := by
  refine okS_E' (okM_mono h fun ts ρ1 p => ?_)
  rw [if_pos p.1]
  exact p.2
end
end VL

end

section
set_option Elab.async false
set_option linter.all false
set_option maxRecDepth 100000
/-! data: shapes and comparisons -/
namespace VL
open PySem PySem.Spec PyProof.Rows L2
structure Sh (n : Nat) (d : PyData) : Prop where
  c : d.canLay0 = true
  h : d.depth ≤ n
theorem Sh.mono {n m : Nat} {d : PyData} (h : Sh n d) (hm : n ≤ m) : Sh m d := ⟨h.c, Nat.le_trans h.h hm⟩
theorem Sh.int {i : Int} {n : Nat} : Sh n (.int i) := ⟨by simp [PyData.canLay0], by simp [PyData.depth]⟩
theorem Sh.bool {b : Bool} {n : Nat} : Sh n (.bool b) := ⟨by simp [PyData.canLay0], by simp [PyData.depth]⟩
theorem Sh.none {n : Nat} : Sh n .none := ⟨by simp [PyData.canLay0], by simp [PyData.depth]⟩
theorem Sh.str {s : Str} {n : Nat} (h : PyData.canLay0 (.str s) = true) : Sh n (.str s) := ⟨h, by simp [PyData.depth]⟩
theorem shAll {n : Nat} : ∀ {xs : List PyData}, (∀ x ∈ xs, Sh n x) → PyData.canLayAll0 xs = true ∧ PyData.depthAll xs ≤ n
  | [], _ => ⟨by simp [PyData.canLayAll0], by simp [PyData.depthAll]⟩
  | x :: xs, h => by
    obtain ⟨h1, h2⟩ := shAll (xs := xs) fun y hy => h y (List.mem_cons_of_mem _ hy)
    have h3 := h x List.mem_cons_self
    exact ⟨by simp [PyData.canLayAll0, h1, h3.c], by simp only [PyData.depthAll]; have := h3.h; omega⟩
theorem Sh.tuple {n : Nat} {xs : List PyData} (h : ∀ x ∈ xs, Sh n x) : Sh (n + 1) (.tuple xs) := ⟨by simp [PyData.canLay0, (shAll h).1], by simp [PyData.depth, (shAll h).2]⟩
theorem Sh.list {n : Nat} {xs : List PyData} (h : ∀ x ∈ xs, Sh n x) : Sh (n + 1) (.list xs) := ⟨by simp [PyData.canLay0, (shAll h).1], by simp [PyData.depth, (shAll h).2]⟩
theorem shAll_inv {n : Nat} : ∀ {xs : List PyData}, PyData.canLayAll0 xs = true → PyData.depthAll xs ≤ n → ∀ x ∈ xs, Sh n x
  | x :: xs, h1, h2, y, hy => by
    simp only [PyData.canLayAll0, Bool.and_eq_true] at h1
    simp only [PyData.depthAll] at h2
    rcases List.mem_cons.mp hy with rfl | hy
    · exact ⟨h1.1, by omega⟩
    · exact shAll_inv h1.2 (by omega) y hy
theorem Sh.of_tuple {n : Nat} {xs : List PyData} (h : Sh (n + 1) (.tuple xs)) : ∀ x ∈ xs, Sh n x := shAll_inv (by have := h.c; simpa [PyData.canLay0] using this) (by have := h.h; simp only [PyData.depth] at this; omega)
theorem Sh.of_list {n : Nat} {xs : List PyData} (h : Sh (n + 1) (.list xs)) : ∀ x ∈ xs, Sh n x := shAll_inv (by have := h.c; simpa [PyData.canLay0] using this) (by have := h.h; simp only [PyData.depth] at this; omega)
theorem Sh.ok {n : Nat} {d : PyData} (h : Sh n d) (hn : n ≤ 64 := by omega) : SeqAt.shaped d = true := by
  unfold SeqAt.shaped
  rw [h.c, Bool.true_and]
  exact decide_eq_true (Nat.le_trans h.h hn)
theorem sh_of {d : PyData} (h : SeqAt.shaped d = true) : Sh 64 d := ⟨SeqAt.canLay_of_shaped h, SeqAt.depth_of_shaped h⟩
@[simp] theorem shaped_int {i : Int} : SeqAt.shaped (.int i) = true := (Sh.int (n := 0)).ok
@[simp] theorem shaped_bool {i : Bool} : SeqAt.shaped (.bool i) = true := (Sh.bool (n := 0)).ok
@[simp] theorem shaped_none : SeqAt.shaped .none = true := (Sh.none (n := 0)).ok
theorem shaped_str {s : Str} (h : PyData.canLay0 (.str s) = true) : SeqAt.shaped (.str s) = true := (Sh.str (n := 0) h).ok
@[simp] theorem okO_eqD {d e : PyData} {Q : Bool → Prop} : okO (eqD d e) Q ↔ (SeqAt.shaped d && SeqAt.shaped e) = true ∧ Q (PyData.eqv d e) := by
  unfold eqD
  rw [okO_ite]
@[simp] theorem okO_neD {d e : PyData} {Q : Bool → Prop} : okO (neD d e) Q ↔ (SeqAt.shaped d && SeqAt.shaped e) = true ∧ Q (!PyData.eqv d e) := by
  unfold neD
  rw [okO_ite]
@[simp] theorem okO_inL {d : PyData} {ds : List PyData} {Q : Bool → Prop} : okO (inD d (.list ds)) Q ↔ (SeqAt.shaped d && SeqAt.shaped (.list ds)) = true ∧ Q (ds.any fun z => PyData.eqv z d) := by
  unfold inD
  rw [okO_ite]
@[simp] theorem okO_inT {d : PyData} {ds : List PyData} {Q : Bool → Prop} : okO (inD d (.tuple ds)) Q ↔ (flatD d && ds.all flatD) = true ∧ Q (ds.any fun z => PyData.eqv z d) := by
  unfold inD
  rw [okO_ite]
@[simp] theorem okO_notIn {d e : PyData} {Q : Bool → Prop} : okO (notInD d e) Q ↔ okO (inD d e) fun b => Q (!b) := by
  unfold notInD
  rw [okO_map]
theorem eqv_self {d : PyData} (h : SeqAt.shaped d = true) : PyData.eqv d d = true := SeqAt.eqv_refl d (SeqAt.canLay_of_shaped h)
@[simp] theorem eqv_ii {i j : Int} : PyData.eqv (.int i) (.int j) = (i == j) := by simp [PyData.eqv]
@[simp] theorem eqv_bb {i j : Bool} : PyData.eqv (.bool i) (.bool j) = (i == j) := by simp [PyData.eqv]
@[simp] theorem eqv_ss {i j : Str} : PyData.eqv (.str i) (.str j) = (i == j) := by simp [PyData.eqv]
@[simp] theorem isND_i {i : Int} : isND (.int i) .none = some false := rfl
@[simp] theorem isND_n : isND .none .none = some true := rfl
@[simp] theorem isND_s {i : Str} : isND (.str i) .none = some false := rfl
@[simp] theorem isND_b {i : Bool} : isND (.bool i) .none = some false := rfl
@[simp] theorem isND_t {i : List PyData} : isND (.tuple i) .none = some false := rfl
@[simp] theorem isND_l {i : List PyData} : isND (.list i) .none = some false := rfl
@[simp] theorem notND_eq {d e : PyData} : notND d e = (isND d e).map (!·) := rfl
@[simp] theorem isiD_i {B : BT} {i : Int} : isiD B (.int i) = some (match B with | .int => true | _ => false) := rfl
@[simp] theorem isiD_b {B : BT} {i : Bool} : isiD B (.bool i) = some (match B with | .int => true | .bool => true | _ => false) := rfl
@[simp] theorem isiD_s {B : BT} {i : Str} : isiD B (.str i) = some (match B with | .str => true | _ => false) := rfl
@[simp] theorem isiD_n {B : BT} : isiD B .none = some false := rfl
@[simp] theorem isiD_t {B : BT} {i : List PyData} : isiD B (.tuple i) = some (match B with | .tuple => true | _ => false) := rfl
@[simp] theorem isiD_l {B : BT} {i : List PyData} : isiD B (.list i) = some (match B with | .list => true | _ => false) := rfl
theorem rangeD_inv {lo : Int} {n i : Nat} {x : PyData} (h : (rangeD lo n)[i]? = some x) : i < n ∧ x = .int (lo + (i : Nat)) := by
  unfold rangeD at h
  rw [List.getElem?_map] at h
  by_cases hi : i < n
  · rw [List.getElem?_range hi] at h
    cases h
    exact ⟨hi, rfl⟩
  · rw [List.getElem?_eq_none (by simp; omega)] at h
    cases h
theorem rangeD_get0 {n i : Nat} {x : PyData} (h : (rangeD 0 n)[i]? = some x) : i < n ∧ x = .int (i : Nat) := by
  obtain ⟨h1, h2⟩ := rangeD_inv h
  exact ⟨h1, by rw [h2, Int.zero_add]⟩
/-! exact sameness of data, as a test -/
mutual
def sameB : PyData → PyData → Bool
  | .none, .none => true
  | .bool a, .bool b => a == b
  | .int a, .int b => a == b
  | .str a, .str b => decide (a = b)
  | .list a, .list b => sameBs a b
  | .tuple a, .tuple b => sameBs a b
  | _, _ => false
def sameBs : List PyData → List PyData → Bool
  | [], [] => true
  | a :: as, b :: bs => sameB a b && sameBs as bs
  | _, _ => false
end
mutual
theorem sameB_ok : ∀ {a b : PyData}, sameB a b = true → a = b
  | .none, b, h => by cases b <;> simp [sameB] at h ⊢
  | .bool a, b, h => by cases b <;> simp [sameB] at h ⊢; exact h
  | .int a, b, h => by cases b <;> simp [sameB] at h ⊢; exact h
  | .str a, b, h => by cases b <;> simp [sameB] at h ⊢; exact h
  | .list a, b, h => by cases b <;> simp [sameB] at h ⊢; exact sameBs_ok h
  | .tuple a, b, h => by cases b <;> simp [sameB] at h ⊢; exact sameBs_ok h
  | .dict a, b, h => by cases b <;> simp [sameB] at h
theorem sameBs_ok : ∀ {a b : List PyData}, sameBs a b = true → a = b
  | [], b, h => by cases b <;> simp [sameBs] at h ⊢
  | a :: as, b, h => by
    cases b with
    | nil => simp [sameBs] at h
    | cons b bs =>
      simp only [sameBs, Bool.and_eq_true] at h
      rw [sameB_ok h.1, sameBs_ok h.2]
end
end VL

end

section
set_option Elab.async false
set_option linter.all false
set_option maxRecDepth 100000
/-! the bag: every law draws from it -/
namespace VL
open PySem PySem.Spec PyProof.Rows L2
def gBag : MS := (sSeq (sSet 2 (cD (.int 0)))
  (sSeq (sIf (cCmp ltD (cVar 1) (cCall lenD (aCons (cVar 0) aNil))) (sSet 2 (cBin modD (cBin subD (cVar 0) (cVar 1)) (cBin mulD (cBin powD (cD (.int 10)) (cD (.int 60))) (cBin powD (cD (.int 10)) (cD (.int 60)))))) sNil)
  (sSeq (sIf (cCmp ltD (cVar 2) (cBin powD (cD (.int 10)) (cD (.int 18)))) (sRet (nLst (aCons (cD (.int 0)) (aCons (cBin addD (cD (.int 1)) (cBin modD (cBin addD (cBin mulD (cVar 2) (cD (.int 7919))) (cBin mulD (cD (.int 104729)) (cVar 1))) (cD (.int 2147483646)))) aNil)))) sNil)
  (sRet (nLst (aCons (cVar 2) (aCons (cBin addD (cD (.int 1)) (cBin modD (cBin addD (cVar 2) (cVar 1)) (cD (.int 2147483646)))) aNil)))))))
def gTake : MS := (sSeq (sIf (cCmp gtD (cBin subD (cVar 0) (cD (.int 0))) (cD (.int 0))) (sSeq (sSet 2 (cBin modD (cBin subD (cVar 0) (cD (.int 0))) (cVar 1)))
  (sSeq (sSetIx [] (cBin fdivD (cBin subD (cVar 0) (cD (.int 0))) (cVar 1)) (pVar 0) (cD (.int 0)))
  (sRetV 2))) sNil)
  (sSeq (sSetIx [] (cBin modD (cBin mulD (cBin subD (cVar 0) (cD (.int 1))) (cD (.int 48271))) (cD (.int 2147483647))) (pVar 0) (cD (.int 1)))
  (sRet (nDat (cBin modD (cBin fdivD (cBin modD (cBin mulD (cBin subD (cVar 0) (cD (.int 1))) (cBin subD (cVar 0) (cD (.int 1)))) (cD (.int 2147483629))) (cD (.int 64))) (cVar 1))))))
def fBag : Fn := runF 3 gBag
def fTake : Fn := runF 3 gTake
def sIn : Str := ⟨#[105, 110]⟩
theorem eIn : ("in" : Str) = sIn := by decide +kernel
def sOut : Str := ⟨#[111, 117, 116]⟩
theorem eOut : ("out" : Str) = sOut := by decide +kernel
def sChin : Str := ⟨#[99, 104, 105, 110]⟩
theorem eChin : ("chin" : Str) = sChin := by decide +kernel
def sBrow : Str := ⟨#[98, 114, 111, 119]⟩
theorem eBrow : ("brow" : Str) = sBrow := by decide +kernel
def gShowing : MS := (sRet (nDat (cTup (aCons (cBin addD (cD (.int 1)) (cFrz (nCall [0] 2 fTake (aCons (cVar 0) (aCons (cD (.int 9)) aNil))))) (aCons (cBin subD (cFrz (nLst (aCons (cD (.str sChin)) (aCons (cD (.str sChin)) (aCons (cD (.str sBrow)) aNil))))) (cFrz (nCall [0] 2 fTake (aCons (cVar 0) (aCons (cD (.int 3)) aNil))))) aNil)))))
def fShowing : Fn := runF 1 gShowing
def gSign : MS := (sSeq (sSet 1 (cBin subD (cFrz (nLst (aCons (cD (.str sIn)) (aCons (cD (.str sOut)) aNil)))) (cFrz (nCall [0] 2 fTake (aCons (cVar 0) (aCons (cD (.int 2)) aNil))))))
  (sRet (nDat (cBin addD (cTup (aCons (cVar 1) (aCons (cFrz (nCall [0] 2 fTake (aCons (cVar 0) (aCons (cD (.int 10)) aNil)))) aNil))) (cFrz (nCall [0] 1 fShowing (aCons (cVar 0) aNil)))))))
def fSign : Fn := runF 2 gSign
/-- a bag as a tree -/
inductive BagT : Tr → Prop where
  | mk {c s : Int} (c0 : 0 ≤ c) (s0 : 0 ≤ s) (s1 : s < 2147483648) : BagT (.lst [.dat (.int c), .dat (.int s)])
theorem mod2 {s : Int} (h0 : 0 ≤ s) (h1 : s < 2147483648) : 0 ≤ s * 48271 % 2147483647 ∧ s * 48271 % 2147483647 < 2147483648 := by omega
theorem ixN_nat {n : Nat} {i : Int} (h0 : 0 ≤ i) (h1 : i < n) : ixN n i = some i.toNat := by
  unfold ixN
  rw [if_pos h0, if_pos h1]
theorem ixN_neg {n : Nat} {i : Int} (h0 : i < 0) (h1 : -(n : Int) ≤ i) : ixN n i = some (i + n).toNat := by
  unfold ixN
  rw [if_neg (by omega), if_pos h1]
@[simp] theorem ixN_cast {n k : Nat} (h : k < n) : ixN n (k : Int) = some k := by
  rw [ixN_nat (by omega) (by omega), Int.toNat_natCast]
@[simp] theorem ixN_0 {n : Nat} (h : 0 < n) : ixN n 0 = some 0 := ixN_nat (by omega) (by omega)
@[simp] theorem ixN_1 {n : Nat} (h : 1 < n) : ixN n 1 = some 1 := ixN_nat (by omega) (by omega)
theorem atI_nat {α : Type} {xs : List α} {i : Int} (h0 : 0 ≤ i) (h1 : i < xs.length) : atI xs i = xs[i.toNat]? := by
  unfold atI
  rw [ixN_nat h0 h1]
  rfl
@[simp] theorem atI_cast {α : Type} {xs : List α} {k : Nat} (h : k < xs.length) : atI xs (k : Int) = xs[k]? := by
  rw [atI_nat (by omega) (by omega), Int.toNat_natCast]
@[simp] theorem atI_0 {α : Type} {xs : List α} (h : 0 < xs.length) : atI xs 0 = xs[0]? := by
  unfold atI
  rw [ixN_0 h]
  rfl
@[simp] theorem atI_1 {α : Type} {xs : List α} (h : 1 < xs.length) : atI xs 1 = xs[1]? := by
  unfold atI
  rw [ixN_1 h]
  rfl
@[simp] theorem ixN_2 {n : Nat} (h : 2 < n) : ixN n 2 = some 2 := ixN_nat (by omega) (by omega)
@[simp] theorem atI_2 {α : Type} {xs : List α} (h : 2 < xs.length) : atI xs 2 = xs[2]? := by
  unfold atI
  rw [ixN_2 h]
  rfl
@[simp] theorem ixN_3 {n : Nat} (h : 3 < n) : ixN n 3 = some 3 := ixN_nat (by omega) (by omega)
@[simp] theorem atI_3 {α : Type} {xs : List α} (h : 3 < xs.length) : atI xs 3 = xs[3]? := by
  unfold atI
  rw [ixN_3 h]
  rfl
@[simp] theorem ixN_4 {n : Nat} (h : 4 < n) : ixN n 4 = some 4 := ixN_nat (by omega) (by omega)
@[simp] theorem atI_4 {α : Type} {xs : List α} (h : 4 < xs.length) : atI xs 4 = xs[4]? := by
  unfold atI
  rw [ixN_4 h]
  rfl
@[simp] theorem ixN_5 {n : Nat} (h : 5 < n) : ixN n 5 = some 5 := ixN_nat (by omega) (by omega)
@[simp] theorem atI_5 {α : Type} {xs : List α} (h : 5 < xs.length) : atI xs 5 = xs[5]? := by
  unfold atI
  rw [ixN_5 h]
  rfl
@[simp] theorem ixN_6 {n : Nat} (h : 6 < n) : ixN n 6 = some 6 := ixN_nat (by omega) (by omega)
@[simp] theorem atI_6 {α : Type} {xs : List α} (h : 6 < xs.length) : atI xs 6 = xs[6]? := by
  unfold atI
  rw [ixN_6 h]
  rfl
@[simp] theorem ixN_7 {n : Nat} (h : 7 < n) : ixN n 7 = some 7 := ixN_nat (by omega) (by omega)
@[simp] theorem atI_7 {α : Type} {xs : List α} (h : 7 < xs.length) : atI xs 7 = xs[7]? := by
  unfold atI
  rw [ixN_7 h]
  rfl
@[simp] theorem ixN_8 {n : Nat} (h : 8 < n) : ixN n 8 = some 8 := ixN_nat (by omega) (by omega)
@[simp] theorem atI_8 {α : Type} {xs : List α} (h : 8 < xs.length) : atI xs 8 = xs[8]? := by
  unfold atI
  rw [ixN_8 h]
  rfl
@[simp] theorem ixN_9 {n : Nat} (h : 9 < n) : ixN n 9 = some 9 := ixN_nat (by omega) (by omega)
@[simp] theorem atI_9 {α : Type} {xs : List α} (h : 9 < xs.length) : atI xs 9 = xs[9]? := by
  unfold atI
  rw [ixN_9 h]
  rfl
theorem atI_in {α : Type} {xs : List α} {i : Int} (h0 : 0 ≤ i) (h1 : i < xs.length) : ∃ a, atI xs i = some a ∧ a ∈ xs := by
  rw [atI_nat h0 h1]
  have h : i.toNat < xs.length := by omega
  exact ⟨xs[i.toNat], List.getElem?_eq_getElem h, List.getElem_mem h⟩
theorem take_ok {m : Md} {t : Tr} {n : Int} (hm : m.ow = true) (hb : BagT t) (hn : 0 < n) (hl : n.natAbs < lim) {Q : Tr → List Sl → Prop} (k : ∀ r t', 0 ≤ r → r < n → BagT t' → Q (.dat (.int r)) [.own .pin t', .val (.int n)]) :
    okF (fTake [.own m t, .val (.int n)]) Q := by
  obtain ⟨h0, h1, h2⟩ := hb
  rename_i c s
  have hp : pinS (.own m (.lst [.dat (.int c), .dat (.int s)])) = .own .pin (.lst [.dat (.int c), .dat (.int s)]) := by cases m <;> first | rfl | cases hm
  refine okF_run ?_
  simp only [entry, List.map_cons, List.map_nil, hp]
  unfold gTake
  rw [okS_seq]
  refine okS_if ?_
  simp
  split
  · rw [okS_seq]
    refine okS_set ?_
    simp [hn]
    rw [okS_seq]
    refine okS_setIx ?_
    simp [hn, hl]
    exact k _ _ (Int.emod_nonneg _ (by omega)) (Int.emod_lt_of_pos _ hn) ⟨Int.ediv_nonneg h0 (by omega), h1, h2⟩
  · rw [okS_seq]
    refine okS_setIx ?_
    simp
    refine ⟨⟨lt_lim (by omega) (by omega), by decide +kernel⟩, ?_⟩
    refine okS_ret ?_
    have hs := mod2 h1 h2
    generalize s * 48271 % 2147483647 = z at hs ⊢
    simp [hn]
    refine ⟨lt_lim (by omega) (by omega), by decide +kernel, ?_⟩
    exact k _ _ (Int.emod_nonneg _ (by omega)) (Int.emod_lt_of_pos _ hn) ⟨h0, hs.1, hs.2⟩
theorem bag_ok {ns : List Int} {i : Nat} (hi : i ≤ 40) {Q : Tr → List Sl → Prop} (k : ∀ t, BagT t → Q t [.val (scrD ns), .val (.int i)]) :
    okF (fBag [.val (scrD ns), .val (.int i)]) Q := by
  refine okF_run ?_
  simp only [entry, List.map_cons, List.map_nil, pinS_val]
  unfold gBag
  rw [okS_seq]
  refine okS_set ?_
  simp
  rw [okS_seq]
  refine okS_if ?_
  have fin : ∀ z : Int, 0 ≤ z → okS (sSeq (sIf (cCmp ltD (cVar 2) (cBin powD (cD (.int 10)) (cD (.int 18)))) (sRet (nLst (aCons (cD (.int 0)) (aCons (cBin addD (cD (.int 1)) (cBin modD (cBin addD (cBin mulD (cVar 2) (cD (.int 7919))) (cBin mulD (cD (.int 104729)) (cVar 1))) (cD (.int 2147483646)))) aNil)))) sNil)
      (sRet (nLst (aCons (cVar 2) (aCons (cBin addD (cD (.int 1)) (cBin modD (cBin addD (cVar 2) (cVar 1)) (cD (.int 2147483646)))) aNil)))) [.val (scrD ns), .val (.int i), .val (.int z)]) fun o => match o with
        | .nx ρ' => Q (.dat .none) (ρ'.take 2)
        | .rt t ρ' => Q t (ρ'.take 2)
        | _ => False := by
    intro z hz
    rw [okS_seq]
    refine okS_if ?_
    simp
    split
    · rename_i h
      refine okS_ret ?_
      simp
      have e := @lt_lim i (by omega) (by omega)
      refine ⟨⟨lt_lim (by omega) (by omega), by decide +kernel⟩, ⟨by decide +kernel, by simpa using e⟩, ?_⟩
      exact k _ ⟨by omega, by omega, by omega⟩
    · refine okS_ret ?_
      simp
      exact k _ ⟨hz, by omega, by omega⟩
  simp
  split
  · rename_i h
    refine okS_set ?_
    simp [h]
    exact ⟨by decide +kernel, fin _ (Int.emod_nonneg _ (by decide))⟩
  · exact fin 0 (by omega)
theorem argM {m : Md} {Q : Prop} (hm : m.ow = true) : m.ow = true := hm
/-- one draw, as an expression, the bag in slot i -/
theorem okM_take {ρ : Rho} {i : Nat} {m : Md} {t : Tr} {n : Int} {T : List Nat} {P : Tr → Rho → Prop} (hi : ρ[i]? = some (.own m t)) (hm : m.ow = true) (hT : T.contains i = true) (hb : BagT t) (hn : 0 < n) (hl : n.natAbs < lim) (k : ∀ r t', 0 ≤ r → r < n → BagT t' → P (.dat (.int r)) (ρ.set i (.own m t'))) :
    okM (callN T 2 fTake [.o i, .d (.int n)] ρ) P := by
  rw [okM_callN]
  simp only [argSls_o, hi, argSls_d, argSls_nil, Option.map_some, okO_some, List.length_cons, List.length_nil, oneEach_o, oneEach_d, oneEach_nil, posOf_d, posOf_nil, Option.map_none, Option.isNone_none, Bool.and_self, allIn_o, allIn_d, allIn_nil, hT, true_and]
  rw [ow_arg hm]
  refine take_ok hm hb hn hl fun r t' h0 h1 ht => ?_
  simp only [mrg_own, unb_pin, mrg_val, mrg_nil, backOk_own, backOk_val, backOk_nil, true_and]
  have e : wb ρ [.o i, .d (.int n)] [.own .pin t', .val (.int n)] = ρ.set i (.own m t') := by
    apply List.ext_getElem?
    intro j
    rw [wb_eq, wbGo_get, Nat.zero_add]
    by_cases hj : i = j
    · subst hj
      have hlen : i < ρ.length := (List.getElem?_eq_some_iff.mp hi).1
      rw [hi, List.getElem?_set_self hlen]
      simp
    · rw [List.getElem?_set_ne hj]
      simp [hj]
  rw [e]
  exact k r t' h0 h1 ht
/-- a showing and a sign -/
inductive IsShow : PyData → Prop where
  | mk {f : Int} {p : Str} (h0 : 1 ≤ f) (h1 : f ≤ 9) (hp : p = sChin ∨ p = sBrow) : IsShow (.tuple [.int f, .str p])
inductive IsSign : PyData → Prop where
  | mk {a p : Str} {c f : Int} (ha : a = sIn ∨ a = sOut) (c0 : 0 ≤ c) (c1 : c ≤ 9) (h0 : 1 ≤ f) (h1 : f ≤ 9) (hp : p = sChin ∨ p = sBrow) : IsSign (.tuple [.str a, .int c, .int f, .str p])
theorem showing_ok {m : Md} {t : Tr} (hm : m.ow = true) (hb : BagT t) {Q : Tr → List Sl → Prop} (k : ∀ d t', IsShow d → BagT t' → Q (.dat d) [.own .pin t']) : okF (fShowing [.own m t]) Q := by
  have hp : pinS (.own m t) = .own .pin t := by cases m <;> first | rfl | cases hm
  refine okF_run ?_
  simp only [entry, List.map_cons, List.map_nil, hp]
  unfold gShowing
  refine okS_ret ?_
  obtain ⟨h0, h1, h2⟩ := hb
  simp [-okM_callN]
  refine okM_take rfl (by simp) rfl ⟨h0, h1, h2⟩ (by omega) (lt_lim (by omega) (by omega)) fun r t' r0 r1 ht => ?_
  obtain ⟨g0, g1, g2⟩ := ht
  simp [-okM_callN]
  refine okM_take rfl (by simp) rfl ⟨g0, g1, g2⟩ (by omega) (lt_lim (by omega) (by omega)) fun u t' u0 u1 ht => ?_
  have hu : u = 0 ∨ u = 1 ∨ u = 2 := by omega
  rcases hu with rfl | rfl | rfl
  · simp
    exact k _ _ ⟨by omega, by omega, .inl rfl⟩ ht
  · simp
    exact k _ _ ⟨by omega, by omega, .inl rfl⟩ ht
  · simp
    exact k _ _ ⟨by omega, by omega, .inr rfl⟩ ht
/-- frozen arguments and one owned slot: what a call leaves -/
theorem wb_one {ρ : Rho} {i : Nat} {m m' : Md} {t t' : Tr} {rs : List Rv} {os : List Sl} {k : Nat} (hi : ρ[i]? = some (.own m t)) (hp : posOf rs i = some k) (ho : ∀ j, j ≠ i → posOf rs j = none) (hk : os[k]? = some (.own m' t')) : wb ρ rs os = ρ.set i (.own m t') := by
  apply List.ext_getElem?
  intro j
  rw [wb_eq, wbGo_get, Nat.zero_add]
  by_cases hj : i = j
  · subst hj
    have hlen : i < ρ.length := (List.getElem?_eq_some_iff.mp hi).1
    rw [hi, List.getElem?_set_self hlen, hp]
    simp [hk]
  · rw [List.getElem?_set_ne hj, ho j (Ne.symm hj)]
    simp
theorem okM_bag1 {F : Fn} {ρ : Rho} {i : Nat} {m : Md} {t : Tr} {T : List Nat} {P : Tr → Rho → Prop} (hi : ρ[i]? = some (.own m t)) (hT : T.contains i = true) (k : okF (F [.own m.arg t]) fun r outs => ∃ t', outs = [.own .pin t'] ∧ P r (ρ.set i (.own m t'))) :
    okM (callN T 1 F [.o i] ρ) P := by
  rw [okM_callN]
  simp only [argSls_o, hi, argSls_nil, Option.map_some, okO_some, List.length_cons, List.length_nil, oneEach_o, oneEach_nil, posOf_nil, Option.isNone_none, Bool.and_self, allIn_o, allIn_nil, hT, true_and]
  refine okF_mono k ?_
  rintro r outs ⟨t', rfl, p⟩
  simp only [mrg_own, unb_pin, mrg_nil, backOk_own, backOk_nil, true_and]
  rw [wb_one (k := 0) hi (by simp) (fun j hj => by simp [Ne.symm hj]) rfl]
  exact p
theorem okM_showing {ρ : Rho} {i : Nat} {m : Md} {t : Tr} {T : List Nat} {P : Tr → Rho → Prop} (hi : ρ[i]? = some (.own m t)) (hm : m.ow = true) (hT : T.contains i = true) (hb : BagT t) (k : ∀ d t', IsShow d → BagT t' → P (.dat d) (ρ.set i (.own m t'))) :
    okM (callN T 1 fShowing [.o i] ρ) P := okM_bag1 hi hT (by rw [ow_arg hm]; exact showing_ok hm hb fun d t' h h' => ⟨t', rfl, k d t' h h'⟩)
theorem sign_ok {m : Md} {t : Tr} (hm : m.ow = true) (hb : BagT t) {Q : Tr → List Sl → Prop} (k : ∀ d t', IsSign d → BagT t' → Q (.dat d) [.own .pin t']) : okF (fSign [.own m t]) Q := by
  have hp : pinS (.own m t) = .own .pin t := by cases m <;> first | rfl | cases hm
  refine okF_run ?_
  simp only [entry, List.map_cons, List.map_nil, hp]
  unfold gSign
  rw [okS_seq]
  refine okS_set ?_
  obtain ⟨h0, h1, h2⟩ := hb
  simp [-okM_callN]
  refine okM_take rfl (by simp) rfl ⟨h0, h1, h2⟩ (by omega) (lt_lim (by omega) (by omega)) fun r t' r0 r1 ht => ?_
  obtain ⟨g0, g1, g2⟩ := ht
  have hr : ∃ a, (a = sIn ∨ a = sOut) ∧ atI [PyData.str sIn, PyData.str sOut] r = some (.str a) := by
    have hu : r = 0 ∨ r = 1 := by omega
    rcases hu with rfl | rfl
    · exact ⟨_, .inl rfl, by simp⟩
    · exact ⟨_, .inr rfl, by simp⟩
  obtain ⟨a, ha, ea⟩ := hr
  simp [ea]
  refine okS_ret ?_
  simp [-okM_callN]
  refine okM_take rfl (by simp) rfl ⟨g0, g1, g2⟩ (by omega) (lt_lim (by omega) (by omega)) fun u t' u0 u1 ht => ?_
  obtain ⟨g0, g1, g2⟩ := ht
  simp [-okM_callN]
  refine okM_showing rfl (by simp) rfl ⟨g0, g1, g2⟩ fun d t' hd ht => ?_
  obtain ⟨d0, d1, d2⟩ := hd
  simp
  exact k _ _ ⟨ha, by omega, by omega, d0, d1, d2⟩ ht
theorem okM_sign {ρ : Rho} {i : Nat} {m : Md} {t : Tr} {T : List Nat} {P : Tr → Rho → Prop} (hi : ρ[i]? = some (.own m t)) (hm : m.ow = true) (hT : T.contains i = true) (hb : BagT t) (k : ∀ d t', IsSign d → BagT t' → P (.dat d) (ρ.set i (.own m t'))) :
    okM (callN T 1 fSign [.o i] ρ) P := okM_bag1 hi hT (by rw [ow_arg hm]; exact sign_ok hm hb fun d t' h h' => ⟨t', rfl, k d t' h h'⟩)
/-- a call with frozen arguments alone -/
theorem okM_pure {F : Fn} {ρ : Rho} {ds : List PyData} {n : Nat} {T : List Nat} {P : Tr → Rho → Prop} (hn : ds.length = n) (k : okF (F (ds.map .val)) fun r _ => P r ρ) : okM (callN T n F (ds.map .d) ρ) P := by
  have h1 : ∀ ds : List PyData, argSls ρ (ds.map .d) = some (ds.map .val) := fun ds => by
    induction ds with
    | nil => rfl
    | cons d ds ih => simp [ih]
  have h2 : ∀ (ds : List PyData) (i : Nat), posOf (ds.map .d) i = none := fun ds i => by
    induction ds with
    | nil => rfl
    | cons d ds ih => simp [ih]
  have h3 : ∀ ds : List PyData, oneEach (ds.map .d) = true := fun ds => by
    induction ds with
    | nil => rfl
    | cons d ds ih => simp [ih]
  have h4 : ∀ ds : List PyData, allIn T (ds.map .d) = true := fun ds => by
    induction ds with
    | nil => rfl
    | cons d ds ih => simp [ih]
  have h5 : ∀ (ds : List PyData) (os : List Sl), backOk (ds.map .val) (mrg (ds.map .val) os) = true := fun ds => by
    induction ds with
    | nil => intro os; rfl
    | cons d ds ih => intro os; simp [ih]
  rw [okM_callN, h1]
  simp only [okO_some, List.length_map, hn, h3, h4, true_and]
  refine okF_mono k fun r outs p => ⟨h5 _ _, ?_⟩
  rw [wb_eq, wbGo_no (h2 ds)]
  exact p
theorem okM_pure1 {F : Fn} {ρ : Rho} {d : PyData} {T : List Nat} {P : Tr → Rho → Prop} (k : okF (F [.val d]) fun r _ => P r ρ) : okM (callN T 1 F [.d d] ρ) P := okM_pure (ds := [d]) rfl k
theorem okM_pure2 {F : Fn} {ρ : Rho} {d e : PyData} {T : List Nat} {P : Tr → Rho → Prop} (k : okF (F [.val d, .val e]) fun r _ => P r ρ) : okM (callN T 2 F [.d d, .d e] ρ) P := okM_pure (ds := [d, e]) rfl k
theorem okM_pure0 {F : Fn} {ρ : Rho} {T : List Nat} {P : Tr → Rho → Prop} (k : okF (F []) fun r _ => P r ρ) : okM (callN T 0 F [] ρ) P := okM_pure (ds := []) rfl k
theorem okM_bag {ns : List Int} {i : Nat} {ρ : Rho} {T : List Nat} {P : Tr → Rho → Prop} (hi : i ≤ 40) (k : ∀ t, BagT t → P t ρ) : okM (callN T 2 fBag [.d (scrD ns), .d (.int i)] ρ) P := okM_pure2 (bag_ok hi k)
end VL

end

section
set_option Elab.async false
set_option linter.all false
set_option maxRecDepth 100000
/-! cards, drawn -/
namespace VL
open PySem PySem.Spec PyProof.Rows L2
def sBought : Str := ⟨#[98, 111, 117, 103, 104, 116]⟩
theorem eBought : ("bought" : Str) = sBought := by decide +kernel
def sSold : Str := ⟨#[115, 111, 108, 100]⟩
theorem eSold : ("sold" : Str) = sSold := by decide +kernel
def gCard : MS := (sSeq (sSet 2 (cFrz (nCall [0, 1] 2 fTake (aCons (cVar 0) (aCons (cVar 1) aNil)))))
  (sSeq (sSet 3 (cBin modD (cBin addD (cBin addD (cVar 2) (cD (.int 1))) (cFrz (nCall [0] 2 fTake (aCons (cVar 0) (aCons (cBin subtD (cVar 1) (cD (.int 1))) aNil))))) (cVar 1)))
  (sSeq (sSet 4 (cBin subD (cFrz (nLst (aCons (cBin addD (cD (.int 100)) (cFrz (nCall [0] 2 fTake (aCons (cVar 0) (aCons (cD (.int 3)) aNil))))) (aCons (cFrz (nCall [0] 2 fTake (aCons (cVar 0) (aCons (cBin addD (cBin powD (cD (.int 10)) (cD (.int 9))) (cD (.int 1))) aNil)))) (aCons (cBin powD (cD (.int 10)) (cD (.int 9))) aNil))))) (cBin subD (cFrz (nLst (aCons (cD (.int 0)) (aCons (cD (.int 0)) (aCons (cD (.int 0)) (aCons (cD (.int 0)) (aCons (cD (.int 1)) (aCons (cD (.int 2)) aNil)))))))) (cFrz (nCall [0] 2 fTake (aCons (cVar 0) (aCons (cD (.int 6)) aNil)))))))
  (sSeq (sSet 5 (cBin subD (cFrz (nLst (aCons (cBin addD (cD (.int 1)) (cFrz (nCall [0] 2 fTake (aCons (cVar 0) (aCons (cD (.int 2)) aNil))))) (aCons (cBin addD (cD (.int 1)) (cFrz (nCall [0] 2 fTake (aCons (cVar 0) (aCons (cBin powD (cD (.int 10)) (cD (.int 6))) aNil))))) (aCons (cBin powD (cD (.int 10)) (cD (.int 6))) aNil))))) (cBin subD (cFrz (nLst (aCons (cD (.int 0)) (aCons (cD (.int 0)) (aCons (cD (.int 0)) (aCons (cD (.int 0)) (aCons (cD (.int 1)) (aCons (cD (.int 2)) aNil)))))))) (cFrz (nCall [0] 2 fTake (aCons (cVar 0) (aCons (cD (.int 6)) aNil)))))))
  (sSeq (sSet 6 (cBin subD (cFrz (nLst (aCons (cFrz (nCall [0] 2 fTake (aCons (cVar 0) (aCons (cD (.int 2)) aNil)))) (aCons (cFrz (nCall [0] 2 fTake (aCons (cVar 0) (aCons (cBin addD (cBin powD (cD (.int 10)) (cD (.int 9))) (cD (.int 1))) aNil)))) aNil)))) (cCall intD (aCons (cOf (cCmp eqD (cFrz (nCall [0] 2 fTake (aCons (cVar 0) (aCons (cD (.int 5)) aNil)))) (cD (.int 0)))) aNil))))
  (sRet (nDat (cTup (aCons (cVar 2) (aCons (cVar 3) (aCons (cBin subD (cFrz (nLst (aCons (cD (.str sBought)) (aCons (cD (.str sSold)) aNil)))) (cFrz (nCall [0] 2 fTake (aCons (cVar 0) (aCons (cD (.int 2)) aNil))))) (aCons (cVar 4) (aCons (cVar 5) (aCons (cVar 6) aNil))))))))))))))
def fCard : Fn := runF 7 gCard
inductive IsCard (n : Int) : PyData → Prop where
  | mk {w o p c m : Int} {d : Str} (w0 : 0 ≤ w) (w1 : w < n) (o0 : 0 ≤ o) (o1 : o < n) (wo : w ≠ o) (hd : d = sBought ∨ d = sSold) (p0 : 0 ≤ p) (p1 : p ≤ 1000000000) (c0 : 1 ≤ c) (c1 : c ≤ 1000000) (m0 : 0 ≤ m) (m1 : m ≤ 1000000000) :
    IsCard n (.tuple [.int w, .int o, .str d, .int p, .int c, .int m])
theorem at6 {r : Int} (h0 : 0 ≤ r) (h1 : r < 6) : ∃ i : Int, atI [PyData.int 0, .int 0, .int 0, .int 0, .int 1, .int 2] r = some (.int i) ∧ (i = 0 ∨ i = 1 ∨ i = 2) := by
  have : r = 0 ∨ r = 1 ∨ r = 2 ∨ r = 3 ∨ r = 4 ∨ r = 5 := by omega
  rcases this with rfl | rfl | rfl | rfl | rfl | rfl
  · exact ⟨0, rfl, .inl rfl⟩
  · exact ⟨0, rfl, .inl rfl⟩
  · exact ⟨0, rfl, .inl rfl⟩
  · exact ⟨0, rfl, .inl rfl⟩
  · exact ⟨1, rfl, .inr (.inl rfl)⟩
  · exact ⟨2, rfl, .inr (.inr rfl)⟩
theorem at3 {i a b c : Int} (h : i = 0 ∨ i = 1 ∨ i = 2) : ∃ v : Int, atI [PyData.int a, .int b, .int c] i = some (.int v) ∧ (v = a ∨ v = b ∨ v = c) := by
  rcases h with rfl | rfl | rfl
  · exact ⟨a, rfl, .inl rfl⟩
  · exact ⟨b, rfl, .inr (.inl rfl)⟩
  · exact ⟨c, rfl, .inr (.inr rfl)⟩
theorem card_ok {m : Md} {t : Tr} {n : Int} (hm : m.ow = true) (hb : BagT t) (n0 : 2 ≤ n) (n1 : n ≤ 1000) {Q : Tr → List Sl → Prop} (k : ∀ d t', IsCard n d → BagT t' → Q (.dat d) [.own .pin t', .val (.int n)]) : okF (fCard [.own m t, .val (.int n)]) Q := by
  have hp : pinS (.own m t) = .own .pin t := by cases m <;> first | rfl | cases hm
  refine okF_run ?_
  simp only [entry, List.map_cons, List.map_nil, hp, pinS_val]
  unfold gCard
  rw [okS_seq]
  refine okS_set ?_
  obtain ⟨g0, g1, g2⟩ := hb
  simp [-okM_callN]
  refine okM_take rfl (by simp) rfl ⟨g0, g1, g2⟩ (by omega) (lt_lim (by omega) (by omega)) fun w t' w0 w1 ht => ?_
  simp
  rw [okS_seq]
  refine okS_set ?_
  obtain ⟨g0, g1, g2⟩ := ht
  simp [-okM_callN]
  refine okM_take rfl (by simp) rfl ⟨g0, g1, g2⟩ (by omega) (lt_lim (by omega) (by omega)) fun o' t' o0 o1 ht => ?_
  simp
  refine ⟨by omega, ?_⟩
  rw [okS_seq]
  refine okS_set ?_
  obtain ⟨g0, g1, g2⟩ := ht
  simp [-okM_callN]
  refine okM_take rfl (by simp) rfl ⟨g0, g1, g2⟩ (by omega) (lt_lim (by omega) (by omega)) fun p1 t' p10 p11 ht => ?_
  obtain ⟨g0, g1, g2⟩ := ht
  simp [-okM_callN]
  refine okM_take rfl (by simp) rfl ⟨g0, g1, g2⟩ (by omega) (lt_lim (by omega) (by omega)) fun p2 t' p20 p21 ht => ?_
  obtain ⟨g0, g1, g2⟩ := ht
  simp [-okM_callN]
  refine okM_take rfl (by simp) rfl ⟨g0, g1, g2⟩ (by omega) (lt_lim (by omega) (by omega)) fun p3 t' p30 p31 ht => ?_
  obtain ⟨i1, e1, hi1⟩ := at6 p30 p31
  obtain ⟨p, ep, hp⟩ := at3 (a := 100 + p1) (b := p2) (c := 1000000000) hi1
  simp [e1, ep]
  rw [okS_seq]
  refine okS_set ?_
  obtain ⟨g0, g1, g2⟩ := ht
  simp [-okM_callN]
  refine okM_take rfl (by simp) rfl ⟨g0, g1, g2⟩ (by omega) (lt_lim (by omega) (by omega)) fun c1 t' c10 c11 ht => ?_
  obtain ⟨g0, g1, g2⟩ := ht
  simp [-okM_callN]
  refine okM_take rfl (by simp) rfl ⟨g0, g1, g2⟩ (by omega) (lt_lim (by omega) (by omega)) fun c2 t' c20 c21 ht => ?_
  obtain ⟨g0, g1, g2⟩ := ht
  simp [-okM_callN]
  refine okM_take rfl (by simp) rfl ⟨g0, g1, g2⟩ (by omega) (lt_lim (by omega) (by omega)) fun c3 t' c30 c31 ht => ?_
  obtain ⟨i2, e2, hi2⟩ := at6 c30 c31
  obtain ⟨c, ec, hc⟩ := at3 (a := 1 + c1) (b := 1 + c2) (c := 1000000) hi2
  simp [e2, ec]
  rw [okS_seq]
  refine okS_set ?_
  obtain ⟨g0, g1, g2⟩ := ht
  simp [-okM_callN]
  refine okM_take rfl (by simp) rfl ⟨g0, g1, g2⟩ (by omega) (lt_lim (by omega) (by omega)) fun m1 t' m10 m11 ht => ?_
  obtain ⟨g0, g1, g2⟩ := ht
  simp [-okM_callN]
  refine okM_take rfl (by simp) rfl ⟨g0, g1, g2⟩ (by omega) (lt_lim (by omega) (by omega)) fun m2 t' m20 m21 ht => ?_
  obtain ⟨g0, g1, g2⟩ := ht
  simp [-okM_callN]
  refine okM_take rfl (by simp) rfl ⟨g0, g1, g2⟩ (by omega) (lt_lim (by omega) (by omega)) fun m3 t' m30 m31 ht => ?_
  have hmm : ∃ v : Int, atI [PyData.int m1, .int m2] (if m3 = 0 then 1 else 0) = some (.int v) ∧ (v = m1 ∨ v = m2) := by
    split <;> simp
  obtain ⟨mm, em, hmm⟩ := hmm
  simp [em]
  refine okS_ret ?_
  obtain ⟨g0, g1, g2⟩ := ht
  simp [-okM_callN]
  refine okM_take rfl (by simp) rfl ⟨g0, g1, g2⟩ (by omega) (lt_lim (by omega) (by omega)) fun u t' u0 u1 ht => ?_
  have hu : ∃ d, (d = sBought ∨ d = sSold) ∧ atI [PyData.str sBought, .str sSold] u = some (.str d) := by
    have : u = 0 ∨ u = 1 := by omega
    rcases this with rfl | rfl
    · exact ⟨_, .inl rfl, by simp⟩
    · exact ⟨_, .inr rfl, by simp⟩
  obtain ⟨d, hd, ed⟩ := hu
  simp [ed]
  have q0 : 0 ≤ (w + 1 + o') % n := Int.emod_nonneg _ (by omega)
  have q1 : (w + 1 + o') % n < n := Int.emod_lt_of_pos _ (by omega)
  have q2 : w ≠ (w + 1 + o') % n := by
    intro e
    by_cases h : w + 1 + o' < n
    · rw [Int.emod_eq_of_lt (by omega) h] at e
      omega
    · have : (w + 1 + o') % n = w + 1 + o' - n := by
        rw [← Int.sub_emod_right, Int.emod_eq_of_lt (by omega) (by omega)]
      omega
  exact k _ _ ⟨w0, w1, q0, q1, q2, hd, by omega, by omega, by omega, by omega, by omega, by omega⟩ ht
theorem okM_bag2 {F : Fn} {ρ : Rho} {i : Nat} {m : Md} {t : Tr} {d : PyData} {T : List Nat} {P : Tr → Rho → Prop} (hi : ρ[i]? = some (.own m t)) (hT : T.contains i = true) (k : okF (F [.own m.arg t, .val d]) fun r outs => ∃ t', outs = [.own .pin t', .val d] ∧ P r (ρ.set i (.own m t'))) :
    okM (callN T 2 F [.o i, .d d] ρ) P := by
  rw [okM_callN]
  simp only [argSls_o, hi, argSls_d, argSls_nil, Option.map_some, okO_some, List.length_cons, List.length_nil, oneEach_o, oneEach_d, oneEach_nil, posOf_d, posOf_nil, Option.map_none, Option.isNone_none, Bool.and_self, allIn_o, allIn_d, allIn_nil, hT, true_and]
  refine okF_mono k ?_
  rintro r outs ⟨t', rfl, p⟩
  simp only [mrg_own, unb_pin, mrg_val, mrg_nil, backOk_own, backOk_val, backOk_nil, true_and]
  rw [wb_one (k := 0) hi (by simp) (fun j hj => by simp [Ne.symm hj]) rfl]
  exact p
theorem okM_card {ρ : Rho} {i : Nat} {m : Md} {t : Tr} {n : Int} {T : List Nat} {P : Tr → Rho → Prop} (hi : ρ[i]? = some (.own m t)) (hm : m.ow = true) (hT : T.contains i = true) (hb : BagT t) (n0 : 2 ≤ n) (n1 : n ≤ 1000) (k : ∀ d t', IsCard n d → BagT t' → P (.dat d) (ρ.set i (.own m t'))) :
    okM (callN T 2 fCard [.o i, .d (.int n)] ρ) P := okM_bag2 hi hT (by rw [ow_arg hm]; exact card_ok hm hb n0 n1 fun d t' h h' => ⟨t', rfl, k d t' h h'⟩)
theorem okM_pure3 {F : Fn} {ρ : Rho} {d e f : PyData} {T : List Nat} {P : Tr → Rho → Prop} (k : okF (F [.val d, .val e, .val f]) fun r _ => P r ρ) : okM (callN T 3 F [.d d, .d e, .d f] ρ) P := okM_pure (ds := [d, e, f]) rfl k
theorem mem_cutL {α : Type} {xs : List α} {lo hi : Option Int} {x : α} (h : x ∈ cutL xs lo hi) : x ∈ xs := List.mem_of_mem_drop (List.mem_of_mem_take h)
theorem len_cutL {α : Type} {xs : List α} {lo hi : Option Int} : (cutL xs lo hi).length ≤ xs.length := by
  unfold cutL
  rw [List.length_take, List.length_drop]
  omega
@[simp] theorem flatD_i {i : Int} : flatD (.int i) = true := rfl
@[simp] theorem flatD_s {i : Str} : flatD (.str i) = true := rfl
@[simp] theorem flatD_b {i : Bool} : flatD (.bool i) = true := rfl
@[simp] theorem flatD_n : flatD .none = true := rfl
end VL

end

section
set_option Elab.async false
set_option linter.all false
set_option maxRecDepth 100000
/-! comprehensions over a list of things of one kind; short rules -/
namespace VL
open PySem PySem.Spec PyProof.Rows L2
def unown : Sl → Bool
  | .own _ _ => false
  | .al _ _ => false
  | _ => true
theorem compGo_map {α : Type} {D : α → PyData} {v : Nat} {G : MG} {tt : M Bool} {te : M Rv} {ρ : Rho} (p : α → Bool) (f : α → PyData) (vs : List Nat) (R : α → Rho) (ρ0 : Rho) :
    ∀ (ds : List α) (acc : List PyData), acc.length + ds.length ≤ 16777216 → (∀ d ∈ ds, G (D d) ρ0 = some (R d) ∧ tt (R d) = some (.ok (p d) (R d)) ∧ (p d = true → te (R d) = some (.ok (.d (f d)) (R d))) ∧ noOwn (R d) vs = true ∧ wipeR (R d) vs = ρ0) →
    compGo vs G tt te (ds.map D) acc ρ0 = some (acc ++ (ds.filter p).map f, ρ0)
  | [], acc, _, _ => by simp [compGo]
  | d :: ds, acc, hl, h => by
    have again := fun acc' hl' => compGo_map (v := v) (G := G) (tt := tt) (te := te) (ρ := ρ) p f vs R ρ0 ds acc' hl' fun y hy => h y (List.mem_cons_of_mem _ hy)
    obtain ⟨e1, e2, e3, e4, e5⟩ := h d List.mem_cons_self
    simp only [List.length_cons] at hl
    rw [List.map_cons]
    unfold compGo
    rw [e1]
    simp only
    rw [e2]
    cases hp : p d with
    | true =>
      simp only [e3 hp, e4, e5, small_of (show acc.length + 1 ≤ 16777216 by omega), Bool.and_self, if_true]
      rw [again (acc ++ [f d]) (by simp; omega)]
      simp [List.filter_cons, hp]
    | false =>
      simp only [e4, e5, if_true]
      rw [again acc (by omega)]
      simp [List.filter_cons, hp]
/-- [te for x in ds if tt], x the slot v -/
theorem okM_compM {α : Type} {D : α → PyData} {ds : List α} {fi : M (List PyData)} {v : Nat} {tt : M Bool} {te : M Rv} {ρ : Rho} {Q : Tr → Rho → Prop} {s : Sl} (p : α → Bool) (f : α → PyData) (hi : fi ρ = some (.ok (ds.map D) ρ)) (hl : ds.length ≤ 16777216) (hv : ρ[v]? = some s) (hs : unown s = true)
    (ht : ∀ d ∈ ds, tt (ρ.set v (.val (D d))) = some (.ok (p d) (ρ.set v (.val (D d))))) (he : ∀ d ∈ ds, p d = true → te (ρ.set v (.val (D d))) = some (.ok (.d (f d)) (ρ.set v (.val (D d)))))
    (k : Q (.lst (((ds.filter p).map f).map .dat)) ρ) : okM (nComp fi [v] (gN v) tt te ρ) Q := by
  have hvl : v < ρ.length := (List.getElem?_eq_some_iff.mp hv).1
  refine okM_comp ?_
  rw [hi, okM_ok]
  have n1 : noOwn ρ [v] = true := by
    simp only [noOwn_cons, noOwn_nil, hv, Bool.and_true]
    cases s <;> first | rfl | cases hs
  have nn : noOwn (ρ.set v .no) [v] = true := by
    simp only [noOwn_cons, noOwn_nil, Bool.and_true]
    rw [List.getElem?_set_self hvl]
  refine ⟨n1, ?_⟩
  have w : wipeR ρ [v] = ρ.set v .no := rfl
  rw [w, compGo_map (v := v) (ρ := ρ) p f [v] (fun d => ρ.set v (.val (D d))) (ρ.set v .no) ds [] (by simpa using hl) fun d hd => ⟨?_, ht d hd, he d hd, ?_, ?_⟩]
  · rw [okO_some]
    refine ⟨nn, ?_⟩
    have e : restR ρ (ρ.set v .no) [v] = ρ := by
      simp only [restR_cons, restR_nil, hv]
      rw [List.set_set]
      apply List.ext_getElem?
      intro j
      by_cases hj : v = j
      · subst hj
        rw [List.getElem?_set_self hvl, hv]
      · rw [List.getElem?_set_ne hj]
    rw [e]
    simpa using k
  · rw [gN_eq, setSl_eq, List.getElem?_set_self hvl, frB_no, if_pos rfl, List.set_set]
  · simp only [noOwn_cons, noOwn_nil, Bool.and_true]
    rw [List.getElem?_set_self hvl]
  · simp only [wipeR_cons, wipeR_nil]
    rw [List.set_set]
/-! reading -/
theorem rd_val {ρ : Rho} {i : Nat} {d : PyData} (h : ρ[i]? = some (.val d)) : cVar i ρ = some (.ok (.d d) ρ) := by unfold cVar; rw [h]
theorem rd_own {ρ : Rho} {i : Nat} {m : Md} {ts : List Tr} (h : ρ[i]? = some (.own m (.lst ts))) : cVar i ρ = some (.ok (.o i) ρ) := by unfold cVar; rw [h]
theorem iSeq_val {ρ : Rho} {i : Nat} {ds : List PyData} (h : ρ[i]? = some (.val (.list ds))) : iSeq (cVar i) ρ = some (.ok ds ρ) := by
  unfold iSeq bnd
  rw [rd_val h]
  rfl
theorem iOwn_own {ρ : Rho} {i : Nat} {m : Md} {ds : List PyData} (h : ρ[i]? = some (.own m (.lst (ds.map .dat)))) : iOwn i ρ = some (.ok ds ρ) := by
  unfold iOwn
  rw [h]
  simp only [flat_dat]
theorem okM_eq {α : Type} {o : Option (Er α)} {a : α} {ρ : Rho} {P : α → Rho → Prop} (h : o = some (.ok a ρ)) (k : P a ρ) : okM o P := ⟨a, ρ, h, k⟩
theorem okM_of {α : Type} {o : Option (Er α)} {a : α} {ρ : Rho} (h : okM o fun x ρ1 => x = a ∧ ρ1 = ρ) : o = some (.ok a ρ) := by
  obtain ⟨x, ρ1, e, rfl, rfl⟩ := h
  exact e
/-! an owned list of data -/
def tr (xs : List PyData) : Tr := .lst (xs.map .dat)
@[simp] theorem isNode_tr {xs : List PyData} : isNode (tr xs) = true := rfl
theorem at_tr {xs : List PyData} : (tr xs).at [] = some (.lst (xs.map .dat)) := at_nil
theorem toD_tr {xs : List PyData} : (tr xs).toD = some (.list xs) := by unfold tr; rw [toD_lst, toDs_map, Option.map_some]
@[simp] theorem rdSl_tr {i : Nat} {m : Md} {xs : List PyData} : rdSl i (some (.own m (tr xs))) = some (.o i) := rfl
@[simp] theorem dsSl_tr {m : Md} {xs : List PyData} : dsSl (some (.own m (tr xs))) = some (.list xs) := by
  show (flat (xs.map .dat)).map PyData.list = _
  rw [flat_dat]
  rfl
@[simp] theorem der_tr {xs : List PyData} : (tr xs).toD = some (.list xs) := toD_tr
theorem app_ok {ρ : Rho} {P : Out → Prop} {T2 : List Nat} {i : Nat} {m m' : Md} {xs : List PyData} {fe : M Rv} (hi : ρ[i]? = some (.own m (tr xs))) (hT : T2.contains i = false) (hl : xs.length < 16777216) (hm : m'.ow = true)
    (he : okM (fe ρ) fun r ρ1 => ∃ d, r = .d d ∧ ρ1[i]? = some (.own m' (tr xs)) ∧ P (.nx (ρ1.set i (.own m' (tr (xs ++ [d])))))) : okS (sApp T2 (pVar i) (nDat fe) ρ) P := by
  refine okS_app ?_
  rw [okM_pVar, hi]
  simp only [okO_some]
  refine ⟨by rw [treeAt_eq, hi]; simp only [at_tr, isLst_l], ?_⟩
  rw [okM_nDat]
  refine okM_mono he ?_
  rintro r ρ1 ⟨d, rfl, h1, k⟩
  rw [rvd_d, okO_some]
  refine ⟨⟨hT, ?_⟩, xs.map .dat, ?_, ?_, ?_⟩
  · rw [modeOk_eq, h1]
    cases m' <;> first | rfl | cases hm
  · rw [treeAt_eq, h1]; exact at_tr
  · rw [List.length_map]; exact small_of (by omega)
  · rw [putAt_eq, h1]
    simp only [put_nil]
    have e : xs.map Tr.dat ++ [.dat d] = (xs ++ [d]).map .dat := by simp
    rw [e]
    exact k
theorem ins_ok {ρ : Rho} {P : Out → Prop} {T2 : List Nat} {i : Nat} {m : Md} {xs : List PyData} {fs : M (List Rv)} (hi : ρ[i]? = some (.own m (tr xs))) (hT : T2.contains i = false) (hl : xs.length < 16777216) (hm : m.ow = true)
    (he : okM (fs ρ) fun rs ρ1 => ∃ (n : Int) (d : PyData), rs = [.d (.int n), .d d] ∧ 0 ≤ n ∧ n < 2 ^ 63 ∧ ρ1[i]? = some (.own m (tr xs)) ∧ P (.nx (ρ1.set i (.own m (tr (insL xs n d)))))) : okS (sIns T2 (pVar i) fs ρ) P := by
  refine okS_ins ?_
  rw [okM_pVar, hi]
  simp only [okO_some]
  refine ⟨by rw [treeAt_eq, hi]; simp only [at_tr, isLst_l], ?_⟩
  refine okM_mono he ?_
  rintro r ρ1 ⟨n, d, rfl, h2, h3, h1, k⟩
  refine okS_ins1 hT ?_ (ds := xs) (by rw [treeAt_eq, h1]; exact at_tr) (by omega) h2 h3 ?_
  · rw [modeOk_eq, h1]
    cases m <;> first | rfl | cases hm
  · rw [putAt_eq, h1]
    simp only [put_nil]
    exact k
end VL

end

section
set_option Elab.async false
set_option linter.all false
set_option maxRecDepth 100000
set_option maxHeartbeats 2000000
namespace SM
open PySem
def s_BadNumber : Str := ⟨#[66, 97, 100, 78, 117, 109, 98, 101, 114]⟩
theorem e_BadNumber : ("BadNumber" : Str) = s_BadNumber := by decide +kernel
def s_Closed : Str := ⟨#[67, 108, 111, 115, 101, 100]⟩
theorem e_Closed : ("Closed" : Str) = s_Closed := by decide +kernel
def s_NoBargain : Str := ⟨#[78, 111, 66, 97, 114, 103, 97, 105, 110]⟩
theorem e_NoBargain : ("NoBargain" : Str) = s_NoBargain := by decide +kernel
def s_NoMember : Str := ⟨#[78, 111, 77, 101, 109, 98, 101, 114]⟩
theorem e_NoMember : ("NoMember" : Str) = s_NoMember := by decide +kernel
def s_NoOffer : Str := ⟨#[78, 111, 79, 102, 102, 101, 114]⟩
theorem e_NoOffer : ("NoOffer" : Str) = s_NoOffer := by decide +kernel
def s_NoQuarrel : Str := ⟨#[78, 111, 81, 117, 97, 114, 114, 101, 108]⟩
theorem e_NoQuarrel : ("NoQuarrel" : Str) = s_NoQuarrel := by decide +kernel
def s_NoRow : Str := ⟨#[78, 111, 82, 111, 119]⟩
theorem e_NoRow : ("NoRow" : Str) = s_NoRow := by decide +kernel
def s_NoSign : Str := ⟨#[78, 111, 83, 105, 103, 110]⟩
theorem e_NoSign : ("NoSign" : Str) = s_NoSign := by decide +kernel
def s_NoText : Str := ⟨#[78, 111, 84, 101, 120, 116]⟩
theorem e_NoText : ("NoText" : Str) = s_NoText := by decide +kernel
def s_NoWay : Str := ⟨#[78, 111, 87, 97, 121]⟩
theorem e_NoWay : ("NoWay" : Str) = s_NoWay := by decide +kernel
def s_NotSeen : Str := ⟨#[78, 111, 116, 83, 101, 101, 110]⟩
theorem e_NotSeen : ("NotSeen" : Str) = s_NotSeen := by decide +kernel
def s_NotTheirs : Str := ⟨#[78, 111, 116, 84, 104, 101, 105, 114, 115]⟩
theorem e_NotTheirs : ("NotTheirs" : Str) = s_NotTheirs := by decide +kernel
def s_NothingLeft : Str := ⟨#[78, 111, 116, 104, 105, 110, 103, 76, 101, 102, 116]⟩
theorem e_NothingLeft : ("NothingLeft" : Str) = s_NothingLeft := by decide +kernel
def s_Own : Str := ⟨#[79, 119, 110]⟩
theorem e_Own : ("Own" : Str) = s_Own := by decide +kernel
def s_TooMany : Str := ⟨#[84, 111, 111, 77, 97, 110, 121]⟩
theorem e_TooMany : ("TooMany" : Str) = s_TooMany := by decide +kernel
def s_Twice : Str := ⟨#[84, 119, 105, 99, 101]⟩
theorem e_Twice : ("Twice" : Str) = s_Twice := by decide +kernel
def s_Unlike : Str := ⟨#[85, 110, 108, 105, 107, 101]⟩
theorem e_Unlike : ("Unlike" : Str) = s_Unlike := by decide +kernel
def s_x : Str := ⟨#[]⟩
theorem e_x : ("" : Str) = s_x := by decide +kernel
def s_x2b : Str := ⟨#[43]⟩
theorem e_x2b : ("+" : Str) = s_x2b := by decide +kernel
end SM
namespace VL
open PySem PySem.Spec PyProof.Rows L2 SM
/-- the classes of errors, by their names -/
def kNames : List Str := [s_BadNumber, s_Closed, s_NoBargain, s_NoMember, s_NoOffer, s_NoQuarrel, s_NoRow, s_NoSign, s_NoText, s_NoWay, s_NotSeen, s_NotTheirs, s_NothingLeft, s_Own, s_TooMany, s_Twice, s_Unlike]
def gKinds (a : Addr) (c : Str) : MS := (sSeq (sSet 1 (cFrz (nLst (aCons (cIsE 0 a (c == s_BadNumber)) (aCons (cIsE 0 a (c == s_Closed)) (aCons (cIsE 0 a (c == s_NoBargain)) (aCons (cIsE 0 a (c == s_NoMember)) aNil)))))))
  (sSeq (sSet 1 (cBin addD (cVar 1) (cFrz (nLst (aCons (cIsE 0 a (c == s_NoOffer)) (aCons (cIsE 0 a (c == s_NoQuarrel)) (aCons (cIsE 0 a (c == s_NoRow)) (aCons (cIsE 0 a (c == s_NoSign)) aNil))))))))
  (sSeq (sSet 1 (cBin addD (cVar 1) (cFrz (nLst (aCons (cIsE 0 a (c == s_NoText)) (aCons (cIsE 0 a (c == s_NoWay)) (aCons (cIsE 0 a (c == s_NotSeen)) (aCons (cIsE 0 a (c == s_NotTheirs)) aNil))))))))
  (sSeq (sSet 1 (cBin addD (cVar 1) (cFrz (nLst (aCons (cIsE 0 a (c == s_NothingLeft)) (aCons (cIsE 0 a (c == s_Own)) (aCons (cIsE 0 a (c == s_TooMany)) (aCons (cIsE 0 a (c == s_Twice)) aNil))))))))
  (sSeq (sSet 1 (cBin addD (cVar 1) (cFrz (nLst (aCons (cIsE 0 a (c == s_Unlike)) (aCons (cIsE 0 a true) aNil))))))
  (sSeq (sSet 2 (cFrz (nLst (aCons (cD (.str s_BadNumber)) (aCons (cD (.str s_Closed)) (aCons (cD (.str s_NoBargain)) (aCons (cD (.str s_NoMember)) (aCons (cD (.str s_NoOffer)) (aCons (cD (.str s_NoQuarrel)) (aCons (cD (.str s_NoRow)) (aCons (cD (.str s_NoSign)) (aCons (cD (.str s_NoText)) aNil))))))))))))
  (sSeq (sSet 2 (cBin addD (cVar 2) (cFrz (nLst (aCons (cD (.str s_NoWay)) (aCons (cD (.str s_NotSeen)) (aCons (cD (.str s_NotTheirs)) (aCons (cD (.str s_NothingLeft)) (aCons (cD (.str s_Own)) (aCons (cD (.str s_TooMany)) (aCons (cD (.str s_Twice)) (aCons (cD (.str s_Unlike)) (aCons (cD (.str s_x2b)) aNil)))))))))))))
  (sRet (nDat (cJoin (cD (.str s_x)) (cFrz (nComp (iRange1 (aCons (cD (.int 18)) aNil)) [3] (gN 3) (cTest (cBin subD (cVar 1) (cVar 3))) (cBin subD (cVar 2) (cVar 3))))))))))))))
structure TabOk (K : PySem.W.Frag) (mg : Str → Option Value) (tab : List (Str × Addr)) (Hc : Addr) : Prop where
  mg : ∀ y ay, (y, ay) ∈ tab → mg y = some (.ref ay)
  nd : (tab.map (·.2)).Nodup
  ex : ∀ y ay, (y, ay) ∈ tab → ExcF K (tab.map (·.2)) ay
  hx : ∀ y ay, (y, ay) ∈ tab → PySem.W.exmOne K (.ref ay) (.ref Hc) = some true
def tabB (K : PySem.W.Frag) (as : List Addr) (Hc : Addr) : Bool := decide as.Nodup && as.all fun C => excB K as C && (PySem.W.exmOne K (.ref C) (.ref Hc) == some true)
theorem tab_of {K : PySem.W.Frag} {mg : Str → Option Value} {tab : List (Str × Addr)} {Hc : Addr} (hm : ∀ y ay, (y, ay) ∈ tab → mg y = some (.ref ay)) (h : tabB K (tab.map (·.2)) Hc = true) : TabOk K mg tab Hc := by
  unfold tabB at h
  rw [Bool.and_eq_true, List.all_eq_true] at h
  obtain ⟨h1, h2⟩ := h
  have h3 : ∀ y ay, (y, ay) ∈ tab → excB K (tab.map (·.2)) ay = true ∧ (PySem.W.exmOne K (.ref ay) (.ref Hc) == some true) = true := fun y ay hy => by
    have := h2 ay (List.mem_map.mpr ⟨_, hy, rfl⟩)
    rwa [Bool.and_eq_true] at this
  exact ⟨hm, of_decide_eq_true h1, fun y ay hy => excF_of (h3 y ay hy).1, fun y ay hy => beq_iff_eq.mp (h3 y ay hy).2⟩
theorem nodup_snd {α β : Type} : ∀ {l : List (α × β)} {a b : α} {c : β}, (l.map (·.2)).Nodup → (a, c) ∈ l → (b, c) ∈ l → a = b
  | [], _, _, _, _, h, _ => by cases h
  | (x, y) :: l, a, b, c, n, h1, h2 => by
    rw [List.map_cons, List.nodup_cons] at n
    rcases List.mem_cons.mp h1 with e1 | h1
    · rcases List.mem_cons.mp h2 with e2 | h2
      · cases e1; cases e2; rfl
      · cases e1; exact absurd (List.mem_map.mpr ⟨_, h2, rfl⟩) n.1
    · rcases List.mem_cons.mp h2 with e2 | h2
      · cases e2; exact absurd (List.mem_map.mpr ⟨_, h1, rfl⟩) n.1
      · exact nodup_snd n.2 h1 h2
theorem TabOk.kit {K : PySem.W.Frag} {mg : Str → Option Value} {tab : List (Str × Addr)} {Hc : Addr} (T : TabOk K mg tab Hc) {c y : Str} {D ay : Addr} (hc : c ∈ tab.map (·.1)) (hD : mg c = some (.ref D)) (hy : (y, ay) ∈ tab) : PySem.W.kitOne K (.ref D) (.ref ay) = some (c == y) := by
  obtain ⟨⟨c', ac⟩, hcm, rfl⟩ := List.mem_map.mp hc
  have e : D = ac := by
    have := T.mg _ _ hcm
    rw [hD] at this
    cases this
    rfl
  subst e
  rw [(T.ex _ _ hcm).ds ay (List.mem_map.mpr ⟨_, hy, rfl⟩)]
  congr 1
  rw [Bool.eq_iff_iff, beq_iff_eq, beq_iff_eq]
  constructor
  · intro e
    subst e
    exact nodup_snd T.nd hcm hy
  · intro e
    have := T.mg _ _ hy
    rw [← e, hD] at this
    cases this
    rfl
theorem TabOk.tryF {K : PySem.W.Frag} {mg : Str → Option Value} {tab : List (Str × Addr)} {Hc : Addr} (T : TabOk K mg tab Hc) (ht : tab.map (·.1) = kNames) : ∀ c ∈ kNames, ∃ C, mg c = some (.ref C) ∧ PySem.W.exmOne K (.ref C) (.ref Hc) = some true := fun c hc => by
  rw [← ht] at hc
  obtain ⟨⟨c', ac⟩, hcm, rfl⟩ := List.mem_map.mp hc
  exact ⟨ac, T.mg _ _ hcm, T.hx _ _ hcm⟩
theorem TabOk.exc {K : PySem.W.Frag} {mg : Str → Option Value} {tab : List (Str × Addr)} {Hc : Addr} (T : TabOk K mg tab Hc) {c : Str} {D : Addr} (hc : c ∈ tab.map (·.1)) (hD : mg c = some (.ref D)) : ExcF K (tab.map (·.2)) D := by
  obtain ⟨⟨c', ac⟩, hcm, rfl⟩ := List.mem_map.mp hc
  have := T.mg _ _ hcm
  rw [hD] at this
  cases this
  exact T.ex _ _ hcm
theorem okM_cIsE {i : Nat} {a : Addr} {b : Bool} {ρ : Rho} {m : Md} {P : Rv → Rho → Prop} (h : ρ[i]? = some (.own m (.raw (.ref a)))) : okM (cIsE i a b ρ) P ↔ P (.d (.bool b)) ρ := by
  unfold cIsE
  rw [h]
  simp
def kFlags (c : Str) : List Bool := (kNames.map fun n => c == n) ++ [true]
def kWords : List Str := kNames ++ [s_x2b]
def kJ (c : Str) : List Str := ((List.range 18).filter fun i => (kFlags c)[i]?.getD false).map fun i => kWords[i]?.getD s_x
def kChk (c : Str) : Bool := decide (Txt.join s_x (kJ c) = c ++ plusS) && decide (((kJ c).map (·.length)).sum + (kJ c).length * s_x.length ≤ 16777216)
theorem kChk_all : kNames.all kChk = true := by decide +kernel
theorem strsD_map {ss : List Str} : strsD (ss.map .str) = some ss := by
  induction ss with
  | nil => rfl
  | cons s ss ih =>
    show (strsD (ss.map .str)).map (s :: ·) = _
    rw [ih]
    rfl
theorem kinds_run (a : Addr) : ∀ c ∈ kNames, ∃ ρ', gKinds a c [.own .pin (.raw (.ref a)), .no, .no, .no] = some (.rt (.dat (.str (c ++ plusS))) ρ') := by
  intro c hc
  have ck := List.all_eq_true.mp kChk_all c hc
  unfold kChk at ck
  rw [Bool.and_eq_true, decide_eq_true_eq, decide_eq_true_eq] at ck
  have isE : ∀ (b : Bool) (x y z : Sl) (P : Rv → Rho → Prop), okM (cIsE 0 a b [.own .pin (.raw (.ref a)), x, y, z]) P ↔ P (.d (.bool b)) [.own .pin (.raw (.ref a)), x, y, z] := fun b x y z P => okM_cIsE rfl
  have h : okS (gKinds a c [.own .pin (.raw (.ref a)), .no, .no, .no]) fun o => ∃ ρ', o = .rt (.dat (.str (c ++ plusS))) ρ' := by
    unfold gKinds
    rw [okS_seq]
    refine okS_set ?_
    simp [isE]
    rw [okS_seq]
    refine okS_set ?_
    simp [isE]
    rw [okS_seq]
    refine okS_set ?_
    simp [isE]
    rw [okS_seq]
    refine okS_set ?_
    simp [isE]
    rw [okS_seq]
    refine okS_set ?_
    simp [isE]
    rw [okS_seq]
    refine okS_set ?_
    simp
    rw [okS_seq]
    refine okS_set ?_
    simp
    refine okS_ret ?_
    have e1 : ∀ xs ys : List PyData, xs = (kFlags c).map .bool → ys = kWords.map .str → okM (nDat (cJoin (cD (.str s_x)) (cFrz (nComp (iRange1 (aCons (cD (.int 18)) aNil)) [3] (gN 3) (cTest (cBin subD (cVar 1) (cVar 3))) (cBin subD (cVar 2) (cVar 3))))) [.own .pin (.raw (.ref a)), .val (.list xs), .val (.list ys), .no]) fun t ρ1 => ∃ ρ', Out.rt t ρ1 = .rt (.dat (.str (c ++ plusS))) ρ' := by
      intro xs ys hx hy
      have lx : xs.length = 18 := by rw [hx]; rfl
      have ly : ys.length = 18 := by rw [hy]; rfl
      rw [okM_nDat]
      unfold cJoin
      rw [okM_bnd, okM_cD]
      simp only []
      rw [okM_bnd, okM_cFrz]
      refine okM_compM (D := fun i : Nat => PyData.int (i : Nat)) (ds := List.range 18) (fun i => (kFlags c)[i]?.getD false) (fun i => .str (kWords[i]?.getD s_x)) rfl (by simp) rfl rfl (fun i hi => okM_of ?_) (fun i hi _ => okM_of ?_) ?_
      · have hi : i < 18 := List.mem_range.mp hi
        have : atI xs (i : Nat) = some (.bool ((kFlags c)[i]?.getD false)) := by
          rw [atI_cast (by omega), hx, List.getElem?_map]
          have hl : i < (kFlags c).length := hi
          rw [List.getElem?_eq_getElem hl]
          rfl
        simp [this]
      · have hi : i < 18 := List.mem_range.mp hi
        have : atI ys (i : Nat) = some (.str (kWords[i]?.getD s_x)) := by
          rw [atI_cast (by omega), hy, List.getElem?_map]
          have hl : i < kWords.length := hi
          rw [List.getElem?_eq_getElem hl]
          rfl
        simp [this]
      · have ej : (List.filter (fun i => (kFlags c)[i]?.getD false) (List.range 18)).map (fun i => PyData.str (kWords[i]?.getD s_x)) = (kJ c).map .str := by
          unfold kJ
          rw [List.map_map]
          rfl
        rw [ej, toD_lst, toDs_map, Option.map_some, okO_some]
        unfold join1
        simp only [derS_d, strsD_map]
        rw [if_pos ck.2, okM_ok, rvd_d, okO_some, ck.1]
        exact ⟨_, rfl⟩
    exact e1 _ _ rfl rfl
  obtain ⟨o, e, ρ', rfl⟩ := h
  exact ⟨ρ', e⟩
section
variable {P : Program} {w : World} {K : PySem.W.Frag} {mg : Str → Option Value} {base : Heap}
theorem fn_kinds {x qual : Str} {st : Stmt} {f : Addr} {fd : FuncData} {k : Nat} {tab : List (Str × Addr)} {Hc : Addr} (F : Fun K x qual st f fd) (S : FnScope ["e", "some", "words", "k"] ["e"] (defScope st)) (T : TabOk K mg tab Hc) (ht : tab.map (·.1) = kNames)
    (hb : ∀ (c : Str) (D : Addr), c ∈ tab.map (·.1) → mg c = some (.ref D) → ExcC K D → PySem.W.kitOne K (.ref D) (.type "ValueError") = some true → ∀ (cdv : Value) (A : Around) (outer : List Env) (s : Shared) (H : Hp) (E : XK) (p : Addr × Obj), L2H.Hot1 A p → Zc (.ref D) none p.2 → (∃ vs, p.2.data = .fields vs) →
      VSs (L2H.cxH CX0 P w K mg base ["e", "some", "words", "k"] qual (defScope st) f cdv A outer s H E p) W0 (defBody st) (gKinds p.1 c)) :
    VLH.FnE P w K mg base (k + 1) f fd ["e"] (spK K mg kNames) := by
  refine VLH.fn_ofE F S (fun a D vs H Q E h => by obtain ⟨rfl, _⟩ := h; rfl) fun cdv A outer s H vs Q E p D hot hz hr h => ?_
  obtain ⟨rfl, c, hc, hm, F0, hF0, hT0, hQ⟩ := h
  have hc' : c ∈ tab.map (·.1) := by rw [ht]; exact hc
  have ex := T.exc hc' hm
  refine ⟨_, hb c D hc' hm ex.c ex.ve cdv A outer s H E p hot hz (let ⟨v, h, _⟩ := hot.2; ⟨v, h⟩), ?_⟩
  obtain ⟨ρ', e⟩ := kinds_run p.1 c hc
  refine ⟨F0, [.own .pin (.raw (.ref p.1)), .no, .no, .no], fun _ => [], _, ⟨hF0, rfl, fun i s h => ?_, fun _ _ => rfl, fun _ => List.nodup_nil, (fun _ _ _ h => nomatch h), hT0, fun j i p t h _ => by
    match j, h with
    | 0, h => cases h
    | 1, h => cases h
    | 2, h => cases h
    | 3, h => cases h
    | j + 4, h => simp at h⟩, e, fun v A' σ' H' F' fp' st n => ?_⟩
  · match i, h with
    | 0, h => cases h; exact ⟨_, rfl, .raw⟩
    | 1, h => cases h; trivial
    | 2, h => cases h; trivial
    | 3, h => cases h; trivial
    | i + 4, h => simp at h
  · cases n.ok with
    | dat q =>
      cases q
      exact hQ F' H' ⟨fun b o h nt => st.frame b o h (fun ⟨i, z⟩ => by cases z) nt, st.dom, st.fr, st.env.sub, fun b h h' => (st.nf b h h').imp_right (fun z => z.elim (fun ⟨i, z⟩ => by cases z) id), st.env.tb⟩
end
end VL

end

section
set_option Elab.async false
set_option linter.all false
set_option maxRecDepth 100000
/-! what the mirror does where it raises -/
namespace VL
open PySem PySem.Spec PyProof.Rows L2
def exM {α : Type} (o : Option (Er α)) (P : Str → Rho → Prop) : Prop := ∃ c ρ, o = some (.ex c ρ) ∧ P c ρ
def exF (o : Option (FR × List Sl)) (P : Str → List Sl → Prop) : Prop := ∃ c outs, o = some (.exc c, outs) ∧ P c outs
section
variable {α β : Type} {ρ : Rho}
theorem exM_1 {f : M α} {k : α → M β} {P : Str → Rho → Prop} (h : exM (f ρ) P) : exM (bnd f k ρ) P := by
  obtain ⟨c, ρ1, e, p⟩ := h
  refine ⟨c, ρ1, ?_, p⟩
  unfold bnd
  rw [e]
theorem exM_2 {f : M α} {k : α → M β} {P : Str → Rho → Prop} (h : okM (f ρ) fun a ρ1 => exM (k a ρ1) P) : exM (bnd f k ρ) P := by
  obtain ⟨a, ρ1, e, c, ρ2, e2, p⟩ := h
  refine ⟨c, ρ2, ?_, p⟩
  unfold bnd
  rw [e]
  exact e2
theorem okS_Ex {f : M α} {k : α → MS} {P : Out → Prop} (h : exM (f ρ) fun c ρ1 => P (.ex c ρ1)) : okS (sE f k ρ) P := by
  obtain ⟨c, ρ1, e, p⟩ := h
  refine ⟨.ex c ρ1, ?_, p⟩
  unfold sE
  rw [e]
theorem okS_E2 {f : M α} {k : α → MS} {P : Out → Prop} (h : okM (f ρ) (fun a ρ1 => okS (k a ρ1) P) ∨ exM (f ρ) fun c ρ1 => P (.ex c ρ1)) : okS (sE f k ρ) P := h.elim okS_E' okS_Ex
@[simp] theorem okS_raise {c : Str} {P : Out → Prop} : okS (sRaise c ρ) P ↔ P (.ex c ρ) := okS_some
theorem exF_run {n : Nat} {g : MS} {args : List Sl} {P : Str → List Sl → Prop} (h : okS (g (entry n args)) fun o => match o with
    | .ex c ρ' => P c (ρ'.take args.length)
    | _ => False) : exF (runF n g args) P := by
  obtain ⟨o, e, p⟩ := h
  unfold runF
  rw [e]
  cases o with
  | ex c ρ' => exact ⟨_, _, rfl, p⟩
  | nx ρ' => exact p.elim
  | rt t ρ' => exact p.elim
  | bk ρ' => exact p.elim
  | ct ρ' => exact p.elim
/-- either end of a def -/
def okX (o : Option (FR × List Sl)) (P : FR → List Sl → Prop) : Prop := ∃ r outs, o = some (r, outs) ∧ P r outs
theorem okX_run {n : Nat} {g : MS} {args : List Sl} {P : FR → List Sl → Prop} (h : okS (g (entry n args)) fun o => match o with
    | .nx ρ' => P (.ret (.dat .none)) (ρ'.take args.length)
    | .rt t ρ' => P (.ret t) (ρ'.take args.length)
    | .ex c ρ' => P (.exc c) (ρ'.take args.length)
    | _ => False) : okX (runF n g args) P := by
  obtain ⟨o, e, p⟩ := h
  unfold runF
  rw [e]
  cases o with
  | nx ρ' => exact ⟨_, _, rfl, p⟩
  | rt t ρ' => exact ⟨_, _, rfl, p⟩
  | ex c ρ' => exact ⟨_, _, rfl, p⟩
  | bk ρ' => exact p.elim
  | ct ρ' => exact p.elim
theorem okX_okF {o : Option (FR × List Sl)} {P : FR → List Sl → Prop} (h : okF o fun t outs => P (.ret t) outs) : okX o P := let ⟨t, outs, e, p⟩ := h; ⟨_, _, e, p⟩
theorem okX_exF {o : Option (FR × List Sl)} {P : FR → List Sl → Prop} (h : exF o fun t outs => P (.exc t) outs) : okX o P := let ⟨t, outs, e, p⟩ := h; ⟨_, _, e, p⟩
/-! calls that may raise -/
theorem okM_callR {Ts : List Nat} {m : Nat} {F : Fn} {rs : List Rv} {P : Tr → Rho → Prop} {args : List Sl} (ha : argSls ρ rs = some args) (hc : rs.length = m ∧ oneEach rs = true ∧ allIn Ts rs = true) (h : okF (F args) fun t outs => backOk args (mrg args outs) = true ∧ P t (wb ρ rs (mrg args outs))) : okM (callR Ts m F rs ρ) P := by
  obtain ⟨t, outs, e, hb, p⟩ := h
  refine ⟨t, wb ρ rs (mrg args outs), ?_, p⟩
  unfold callR
  rw [ha]
  simp only []
  rw [if_pos (by simp only [Bool.and_eq_true, decide_eq_true_eq]; exact hc), e]
  simp only [hb, if_true]
theorem exM_callR {Ts : List Nat} {m : Nat} {F : Fn} {rs : List Rv} {P : Str → Rho → Prop} {args : List Sl} (ha : argSls ρ rs = some args) (hc : rs.length = m ∧ oneEach rs = true ∧ allIn Ts rs = true) (h : exF (F args) fun c outs => backOk args (mrg args outs) = true ∧ P c (wb ρ rs (mrg args outs))) : exM (callR Ts m F rs ρ) P := by
  obtain ⟨t, outs, e, hb, p⟩ := h
  refine ⟨t, wb ρ rs (mrg args outs), ?_, p⟩
  unfold callR
  rw [ha]
  simp only []
  rw [if_pos (by simp only [Bool.and_eq_true, decide_eq_true_eq]; exact hc), e]
  simp only [hb, if_true]
@[simp] theorem okM_nCallR {Ts : List Nat} {m : Nat} {F : Fn} {f : M (List Rv)} {P : Tr → Rho → Prop} : okM (nCallR Ts m F f ρ) P ↔ okM (f ρ) fun rs ρ1 => okM (callR Ts m F rs ρ1) P := by
  unfold nCallR
  simp only [okM_bnd]
theorem exM_nCallR {Ts : List Nat} {m : Nat} {F : Fn} {f : M (List Rv)} {P : Str → Rho → Prop} (h : okM (f ρ) fun rs ρ1 => exM (callR Ts m F rs ρ1) P) : exM (nCallR Ts m F f ρ) P := exM_2 h
section
variable {ds : List PyData} {n : Nat} {T : List Nat} {F : Fn}
theorem pure_1 : ∀ ds : List PyData, argSls ρ (ds.map .d) = some (ds.map .val)
  | [] => rfl
  | d :: ds => by simp [pure_1 ds]
theorem pure_2 : ∀ (ds : List PyData) (i : Nat), posOf (ds.map .d) i = none
  | [], _ => rfl
  | d :: ds, i => by simp [pure_2 ds i]
theorem pure_3 : ∀ ds : List PyData, oneEach (ds.map .d) = true
  | [] => rfl
  | d :: ds => by simp [pure_3 ds]
theorem pure_4 : ∀ ds : List PyData, allIn T (ds.map .d) = true
  | [] => rfl
  | d :: ds => by simp [pure_4 ds]
theorem pure_5 : ∀ (ds : List PyData) (os : List Sl), backOk (ds.map .val) (mrg (ds.map .val) os) = true
  | [], _ => rfl
  | d :: ds, os => by simp [pure_5 ds]
theorem okM_pureR {P : Tr → Rho → Prop} (hn : ds.length = n) (k : okF (F (ds.map .val)) fun r _ => P r ρ) : okM (callR T n F (ds.map .d) ρ) P := by
  refine okM_callR (pure_1 ds) ⟨by rw [List.length_map]; exact hn, pure_3 ds, pure_4 ds⟩ (okF_mono k fun r outs p => ⟨pure_5 ds _, ?_⟩)
  rw [wb_eq, wbGo_no (pure_2 ds)]
  exact p
theorem exM_pureR {P : Str → Rho → Prop} (hn : ds.length = n) (k : exF (F (ds.map .val)) fun r _ => P r ρ) : exM (callR T n F (ds.map .d) ρ) P := by
  obtain ⟨c, outs, e, p⟩ := k
  refine exM_callR (pure_1 ds) ⟨by rw [List.length_map]; exact hn, pure_3 ds, pure_4 ds⟩ ⟨c, outs, e, pure_5 ds _, ?_⟩
  rw [wb_eq, wbGo_no (pure_2 ds)]
  exact p
end
theorem okM_pureR1 {F : Fn} {d : PyData} {T : List Nat} {P : Tr → Rho → Prop} (k : okF (F [.val d]) fun r _ => P r ρ) : okM (callR T 1 F [.d d] ρ) P := okM_pureR (ds := [d]) rfl k
theorem okM_pureR2 {F : Fn} {d e : PyData} {T : List Nat} {P : Tr → Rho → Prop} (k : okF (F [.val d, .val e]) fun r _ => P r ρ) : okM (callR T 2 F [.d d, .d e] ρ) P := okM_pureR (ds := [d, e]) rfl k
theorem okM_pureR3 {F : Fn} {d e f : PyData} {T : List Nat} {P : Tr → Rho → Prop} (k : okF (F [.val d, .val e, .val f]) fun r _ => P r ρ) : okM (callR T 3 F [.d d, .d e, .d f] ρ) P := okM_pureR (ds := [d, e, f]) rfl k
theorem exM_pureR1 {F : Fn} {d : PyData} {T : List Nat} {P : Str → Rho → Prop} (k : exF (F [.val d]) fun r _ => P r ρ) : exM (callR T 1 F [.d d] ρ) P := exM_pureR (ds := [d]) rfl k
theorem exM_pureR2 {F : Fn} {d e : PyData} {T : List Nat} {P : Str → Rho → Prop} (k : exF (F [.val d, .val e]) fun r _ => P r ρ) : exM (callR T 2 F [.d d, .d e] ρ) P := exM_pureR (ds := [d, e]) rfl k
theorem exM_pureR3 {F : Fn} {d e f : PyData} {T : List Nat} {P : Str → Rho → Prop} (k : exF (F [.val d, .val e, .val f]) fun r _ => P r ρ) : exM (callR T 3 F [.d d, .d e, .d f] ρ) P := exM_pureR (ds := [d, e, f]) rfl k
theorem exM_frz {f : M Tr} {P : Str → Rho → Prop} (h : exM (f ρ) P) : exM (cFrz f ρ) P := exM_1 h
theorem exM_dat {f : M Rv} {P : Str → Rho → Prop} (h : exM (f ρ) P) : exM (nDat f ρ) P := exM_1 h
/-! try .. except HallError as e: kind = _law_kinds(e) -/
@[simp] theorem isNo_no : isNo (some .no) = true := rfl
theorem okS_tryK {cs : List Str} {j i : Nat} {g : MS} {P : Out → Prop} (h : okS (g ρ) fun o => match o with
    | .ex c ρ1 => (c ∈ cs ∧ isNo ρ1[j]? = true) ∧ okR (setSl ρ1 i (.val (.str (c ++ plusS)))) fun ρ2 => isNo ρ2[j]? = true ∧ P (.nx ρ2)
    | o => P o) : okS (sTryK cs j i g ρ) P := by
  obtain ⟨o, e, p⟩ := h
  unfold sTryK
  rw [e]
  cases o with
  | nx ρ' => exact ⟨_, rfl, p⟩
  | rt t ρ' => exact ⟨_, rfl, p⟩
  | bk ρ' => exact ⟨_, rfl, p⟩
  | ct ρ' => exact ⟨_, rfl, p⟩
  | ex c ρ1 =>
    obtain ⟨hc, ρ2, e2, h2, p⟩ := p
    refine ⟨.nx ρ2, ?_, p⟩
    simp only []
    rw [if_pos hc, e2]
    simp only [h2, if_true]
end
end VL

end

section
set_option Elab.async false
set_option linter.all false
set_option maxRecDepth 100000
/-! an owned local is moved into a new tree; parts of trees are read -/
namespace VL
open PySem PySem.Spec PyProof.Rows L2
section
variable {X : Cx} {T T1 T2 T3 : List Nat} {W : WV} {K : Fg} {fp1 : M (Nat × List Nat)} {a : Expr} {pos p : Pos}
/-- the tree is taken out of the local; what stays is not known -/
def nMv (i : Nat) : M Tr := fun ρ => match ρ[i]? with
  | some (.own .free t) => some (.ok t (ρ.set i (.own .free .hole)))
  | _ => none
theorem vn_mv (i : Nat) {x : Str} (hN : X.N[i]? = some x := by rfl) (hv : Vis X.env.scope x := by first | exact Or.inl rfl | exact Or.inr (Or.inl rfl) | exact Or.inr (Or.inr rfl)) (hd : (x == ("__debug__" : Str)) = false := by decide)
    (hcd : (x == ("__classdict__" : Str)) = false := by decide) : VN X [i] W (.Name x pos) (nMv i) :=
  pe_imp (pe_var hN hv hd hcd) fun σ H Q ⟨F, ρ, fp, o, E, e, P⟩ => by
    unfold nMv at e
    split at e
    · rename_i t h
      cases ok_inj e
      obtain ⟨u, hu, q⟩ := E.sl i _ h
      have hi : i < ρ.length := (List.getElem?_eq_some_iff.mp h).1
      have alN : AlOk H σ (ρ.set i (.own .free .hole)) := al_set E hi rfl
      refine ⟨u, sg_some.mp hu, P u H F (fset fp i []) ⟨⟨⟨E.sub, by rw [List.length_set]; exact E.len, fun j s hs => ?_, fun j hj => ?_, fun j => ?_, fun j l b h1 h2 => ?_, E.tb, alN⟩, Same.refl _, fun _ h h' => absurd h h', fun _ h => h, fun _ _ h _ _ => h, fun b hb => ?_, fun j mj tj hj hmj => ?_, fun j tj hj => ?_⟩, fun j m t' hj => ?_, fun j hj => ?_⟩ ⟨fp i, q, E.nd i, fun b hb => .inr ⟨i, hb⟩, fun b hb z => ?_⟩⟩
      · unfold fset
        by_cases hji : i = j
        · subst hji
          rw [List.getElem?_set_self hi] at hs
          cases hs
          rw [if_pos rfl]
          exact ⟨u, hu, .hole⟩
        · rw [List.getElem?_set_ne hji] at hs
          rw [if_neg (Ne.symm hji)]
          exact E.sl j s hs
      · unfold fset
        by_cases hji : j = i
        · rw [if_pos hji]
        · rw [if_neg hji]
          refine E.nil j fun m t z => hj m t ?_
          rw [List.getElem?_set_ne (Ne.symm hji)]
          exact z
      · unfold fset
        split
        · exact List.nodup_nil
        · exact E.nd j
      · unfold fset at h1 h2
        split at h1
        · cases h1
        · split at h2
          · cases h2
          · exact E.ap j l b h1 h2
      · rcases hb.fset with z | z
        · cases z
        · exact .inl z
      · have hji : i ≠ j := fun z => by subst z; rw [h] at hj; cases hj; cases hmj
        exact ⟨rfl, mj, tj, by rw [List.getElem?_set_ne hji]; exact hj, hmj⟩
      · have hji : i ≠ j := fun z => by subst z; rw [h] at hj; cases hj
        refine ⟨rfl, by rw [List.getElem?_set_ne hji]; exact hj, ?_, fun _ _ => rfl⟩
        unfold fset
        rw [if_neg (Ne.symm hji)]
      · by_cases hji : i = j
        · subst hji
          rw [h] at hj
          cases hj
          exact ⟨.hole, List.getElem?_set_self hi⟩
        · exact ⟨t', by rw [List.getElem?_set_ne hji]; exact hj⟩
      · have hji : i ≠ j := fun z => hj (by simp [z])
        refine ⟨List.getElem?_set_ne hji, ?_, fun _ _ => rfl⟩
        unfold fset
        rw [if_neg (Ne.symm hji)]
      · obtain ⟨j, hj⟩ := z
        unfold fset at hj
        split at hj
        · cases hj
        · rename_i hne
          exact hne (E.ap j i b hj hb)
    · cases e
/-- a slice of a list of data at a place -/
def cutP1 (Ts : List Nat) (r : Nat × List Nat) (lo hi : Option Int) : M Rv := fun ρ => if Ts.contains r.1 then none else match treeAt ρ r with
  | some (.lst ts) => (match flat ts with
    | some ds => (match cutD (.list ds) lo hi with
      | some z => some (.ok (.d z) ρ)
      | none => none)
    | none => none)
  | _ => none
def cCutP (Ts : List Nat) (f : M (Nat × List Nat)) (fl fh : M (Option Int)) : M Rv := bnd f fun r => bnd fl fun lo => bnd fh fun hi => cutP1 Ts r lo hi
variable {fl fh : M (Option Int)} {lo hi : Option Expr} {p2 : Pos}
theorem ve_cutP (ha : VP X T1 W a fp1) (hl : VO X T2 W lo fl) (hh : VO X T3 W hi fh) {Ts : List Nat} (hT : Ts = T2 ++ T3 := by rfl) : VE X (T1 ++ T2 ++ T3) W (.Subscript a (.Slice lo hi none p2) pos) (cCutP Ts fp1 fl fh) :=
  pe_imp (pe_slice sl_D ha hl hh) fun σ H Q ⟨F, ρ, fp, o, E, e, P⟩ => by
    subst hT
    refine tv_bnd E e P (fun i hi => List.mem_append_left _ (List.mem_append_left _ hi)) fun x ρ1 v H1 F1 fp1 s1 r1 e1 P1 => ?_
    refine tv_bnd s1.env e1 P1 (fun i hi => List.mem_append_left _ (List.mem_append_right _ hi)) fun l ρ2 l' H2 F2 fp2 s2 r2 e2 P2 => ?_
    refine tv_bnd s2.env e2 P2 (fun i hi => List.mem_append_right _ hi) fun u ρ3 u' H3 F3 fp3 s3 r3 e3 P3 => ?_
    have r2 : l' = l := r2
    have r3 : u' = u := r3
    subst r2 r3
    unfold cutP1 at e3
    split at e3
    · cases e3
    · rename_i hT
      have hT2 : x.1 ∉ T2 := fun z => hT (List.contains_iff_mem.mpr (List.mem_append_left _ z))
      have hT3 : x.1 ∉ T3 := fun z => hT (List.contains_iff_mem.mpr (List.mem_append_right _ z))
      have pl := place_step s2.env s3 hT3 (place_step s1.env s2 hT2 r1)
      split at e3
      · rename_i ts hts
        split at e3
        · rename_i ds hfl
          split at e3
          · rename_i z hz
            cases ok_inj e3
            obtain ⟨B, q, _⟩ := place_get s3.env pl hts
            have := flat_ok hfl
            subst this
            cases q with
            | lst h1 h2 h3 =>
              obtain ⟨_, h4⟩ := trs_dat' h3
              exact ok_cutD s3.env.sub (.inr ⟨_, _, ds, rfl, rfl, h1, h4⟩) hz fun v' F4 H4 gr dp => P3 v' H4 F4 fp3 (gr.step s3.env) dp
          · cases e3
        · cases e3
      · cases e3
/-- isinstance of what stands at a place -/
def cIsiP (B : BT) (f : M (Nat × List Nat)) : M Rv := bnd f fun r => fun ρ => match (treeAt ρ r).bind Tr.toD with
  | some d => (match isiD B d with
    | some b => some (.ok (.d (.bool b)) ρ)
    | none => none)
  | none => none
theorem ve_isiP {B : BT} {y : Str} {p' : Pos} (ha : VP X T W a fp1) (hg : Gl X "isinstance") (hm : X.mg "isinstance" = none) (hg' : Gl X y) (hm' : X.mg y = none) (hv' : bootBuiltins y = some (.type B.nm)) (hn' : y ≠ "__name__" := by decide) (hd' : (y == ("__debug__" : Str)) = false := by decide)
    (h1 : starEach [a, .Name y p'] X.env = (false, eval a X.env) :: starEach [.Name y p'] X.env := by rfl) (h2 : (backTo pos (starEach [.Name y p'] X.env)).any (·.1) = false := by rfl) (h3 : starEach [.Name y p'] X.env = (false, eval (.Name y p') X.env) :: starEach [] X.env := by rfl) :
    VE X T W (.Call (.Name "isinstance" p) [a, .Name y p'] [] pos) (cIsiP B fp1) :=
  pe_imp (pe_callB call_isi hg hm (by decide +kernel) (pa_cons ha (pa_cons (pe_bltn (v := .ty B.nm) hg' hm' hv' rfl hn' hd') pa_nil h3) h1) (by decide) (by decide) h1 h2) fun σ H Q ⟨F, ρ, fp, o, E, e, P⟩ => by
    refine tv_bnd E e P (fun i hi => hi) fun x ρ1 v H1 F1 fp1 s1 r1 e1 P1 => ?_
    split at e1
    · rename_i d hd
      split at e1
      · rename_i b hb
        cases ok_inj e1
        obtain ⟨t0, ht, htd⟩ := Option.bind_eq_some_iff.mp hd
        obtain ⟨B', qt, _⟩ := place_get s1.env r1 ht
        have q : Dq X.K H1 v d := qt.dp s1.env.sub (fun _ _ => rfl) htd
        obtain ⟨hd1, hd2⟩ := isiD_ok (K := X.K) hb
        exact ⟨v, .ty B.nm, _, _, b, rfl, .ty B.nm, tyX_of q hd1, hd2, P1 _ H1 F1 fp1 (.refl s1.env) (.bl b)⟩
      · cases e1
    · cases e1
/-! ### a ghost: what a local holds is forgotten -/
def fgSl (ρ : Rho) (i : Nat) : Option Rho := match ρ[i]? with
  | some (.own .free _) => some (ρ.set i .no)
  | some (.val _) => some (ρ.set i .no)
  | some .no => some (ρ.set i .no)
  | some (.al _ _) => some (ρ.set i .no)
  | _ => none
def sFg (i : Nat) (g : MS) : MS := fun ρ => match fgSl ρ i with
  | some ρ1 => g ρ1
  | none => none
theorem fg_step {F H : Hp} {σ : Sg} {ρ ρ1 : Rho} {fp : FP} {i : Nat} (E : EnvOk K F H σ ρ fp) (h : fgSl ρ i = some ρ1) : ∃ fp1, Step K F H σ ρ fp F H σ ρ1 fp1 := by
  have key : ρ1 = ρ.set i .no ∧ i < ρ.length ∧ (∀ m t, ρ[i]? = some (.own m t) → m = .free) := by
    unfold fgSl at h
    split at h
    · rename_i t ht
      cases h
      exact ⟨rfl, (List.getElem?_eq_some_iff.mp ht).1, fun m t' z => by rw [ht] at z; cases z; rfl⟩
    · rename_i t ht
      cases h
      exact ⟨rfl, (List.getElem?_eq_some_iff.mp ht).1, fun m t' z => by rw [ht] at z; cases z⟩
    · rename_i ht
      cases h
      exact ⟨rfl, (List.getElem?_eq_some_iff.mp ht).1, fun m t' z => by rw [ht] at z; cases z⟩
    · rename_i ht
      cases h
      exact ⟨rfl, (List.getElem?_eq_some_iff.mp ht).1, fun m t' z => by rw [ht] at z; cases z⟩
    · cases h
  obtain ⟨rfl, hi, hm⟩ := key
  have alN : AlOk H σ (ρ.set i .no) := al_set E hi rfl
  refine ⟨fset fp i [], ⟨E.sub, by rw [List.length_set]; exact E.len, fun j s hs => ?_, fun j hj => ?_, fun j => ?_, fun j l b h1 h2 => ?_, E.tb, alN⟩, Same.refl _, fun _ h h' => absurd h h', fun _ h => h, fun _ _ h _ _ => h, fun b hb => ?_, fun j mj tj hj hmj => ?_, fun j tj hj => ?_⟩
  · unfold fset
    by_cases hji : i = j
    · subst hji
      rw [List.getElem?_set_self hi] at hs
      cases hs
      trivial
    · rw [List.getElem?_set_ne hji] at hs
      rw [if_neg (Ne.symm hji)]
      exact E.sl j s hs
  · unfold fset
    by_cases hji : j = i
    · rw [if_pos hji]
    · rw [if_neg hji]
      refine E.nil j fun m t z => hj m t ?_
      rw [List.getElem?_set_ne (Ne.symm hji)]
      exact z
  · unfold fset
    split
    · exact List.nodup_nil
    · exact E.nd j
  · unfold fset at h1 h2
    split at h1
    · cases h1
    · split at h2
      · cases h2
      · exact E.ap j l b h1 h2
  · rcases hb.fset with z | z
    · cases z
    · exact .inl z
  · have hji : i ≠ j := fun z => by subst z; rw [hm mj tj hj] at hmj; cases hmj
    exact ⟨rfl, mj, tj, by rw [List.getElem?_set_ne hji]; exact hj, hmj⟩
  · have hji : i ≠ j := fun z => by subst z; have := hm _ _ hj; cases this
    refine ⟨rfl, by rw [List.getElem?_set_ne hji]; exact hj, ?_, fun _ _ => rfl⟩
    unfold fset
    rw [if_neg (Ne.symm hji)]
theorem vs_fg {st : Stmt} {g : MS} (i : Nat) (h : VS X W st g) : VS X W st (sFg i g) := ps_imp h fun D σ H ⟨F, ρ, fp, o, E, e, P⟩ => by
  unfold sFg at e
  cases q : fgSl ρ i with
  | none => rw [q] at e; cases e
  | some ρ1 =>
    rw [q] at e
    obtain ⟨fp1, st1⟩ := fg_step E q
    exact ⟨F, ρ1, fp1, o, st1.env, e, P.step st1⟩
end
end VL

end

section
set_option Elab.async false
set_option linter.all false
set_option maxRecDepth 100000
/-! dicts with tuples as keys: d[k] op= e, for k in d; list.remove of data; sorted(xs) as a new list -/
namespace VL
open PySem PySem.Spec PyProof.Rows L2
section
variable {X : Cx} {T T1 T2 T3 T4 T5 : List Nat} {W : WV} {K : Fg} {pos p : Pos}
/-! ### sorted(xs), a new list -/
def nSort (fs : M (List Rv)) : M Tr := bnd fs fun rs => fun ρ => match derSs ρ rs with
  | some [.list ds] => if sortOk ds then some (.ok (.lst ((sortL ds).map .dat)) ρ) else none
  | _ => none
theorem vn_sort {e : Expr} {fs : M (List Rv)} (hu : X.A.units + 65 < cLine) (hg : Gl X "sorted") (hm : X.mg "sorted" = none) (ha : VA X T W [e] fs)
    (he : starEach [e] X.env = (false, eval e X.env) :: starEach [] X.env := by rfl) (hpl : (backTo pos (starEach [] X.env)).any (·.1) = false := by rfl) : VN X T W (.Call (.Name "sorted" p) [e] [] pos) (nSort fs) :=
  pe_imp (pe_callB (cr_sortD hu) hg hm (by decide +kernel) ha (by decide) (by decide) he hpl) fun σ H Q ⟨F, ρ, fp, o, E, q, P⟩ => by
    refine tv_bnd E q P (fun i hi => hi) fun rs ρ1 vs H1 F1 fp1 s1 r1 e1 P1 => ?_
    split at e1
    · rename_i ds hds
      split at e1
      · rename_i hz
        cases ok_inj e1
        have h := derSs_ok s1.env r1 hds
        cases h with
        | cons h t =>
          cases t
          obtain ⟨a, us, rfl, h1, h2⟩ := h.list s1.env.sub
          have s := s1.env.sub
          have hl := dqAll_len h2
          unfold sortOk at hz
          simp only [Bool.and_eq_true] at hz
          obtain ⟨⟨⟨z1, z2⟩, z3⟩, z4⟩ := hz
          have m1 : (us.zip ds).map (·.1) = us := List.map_fst_zip (by omega)
          have m2 : (us.zip ds).map (·.2) = ds := List.map_snd_zip (by omega)
          have mem : ∀ b ∈ us.zip ds, b.2 ∈ ds := fun b hb => (List.of_mem_zip (show (b.1, b.2) ∈ us.zip ds from hb)).2
          refine ⟨a, us.zip ds, rfl, by rw [m1]; exact h1, fun b hb => ⟨dq_dp _ _ (List.all_eq_true.mp z4 _ (mem b hb)) (dq_mono s _ _ (dqAll_zip h2 b hb)), of_decide_eq_true (List.all_eq_true.mp z3 _ (mem b hb))⟩, ?_, ?_, fun p np => ?_⟩
          · rw [m2]
            exact fun d hd d' hd' => List.all_eq_true.mp (List.all_eq_true.mp z1 d hd) d' hd'
          · rw [m2]
            rcases Bool.or_eq_true _ _ ▸ z2 with z | z
            · refine .inl fun d hd => ?_
              have := List.all_eq_true.mp z d hd
              unfold tupled at this
              split at this
              · exact ⟨_, _, rfl⟩
              · cases this
            · refine .inr fun d hd => ?_
              have := List.all_eq_true.mp z d hd
              unfold untupled at this
              split at this
              · cases this
              · cases this
              · rename_i n1 n2
                exact ⟨fun e => n2 e, fun xs e => n1 xs e⟩
          · have mm : ((us.zip ds).mergeSort (PySem.W.dataLe false (·.2))).map (·.2) = sortL ds := by
              unfold sortL
              have z := List.map_mergeSort (r := PySem.W.dataLe false (fun b : V × PyData => b.2)) (s := PySem.W.dataLe false id) (f := fun b : V × PyData => b.2) (l := us.zip ds) (fun a _ b _ => rfl)
              rw [m2] at z
              exact z
            have hq : DqAll X.K F1 (((us.zip ds).mergeSort (PySem.W.dataLe false (·.2))).map (·.1)) (sortL ds) := by
              rw [← mm]
              exact dqAll_of fun b hb => dqAll_zip h2 b (List.mem_mergeSort.mp hb)
            refine P1 _ _ F1 fp1 ((Grow.lay _ s np).step s1.env) ⟨[p], .lst upd_same (s.free np) (trs_dat hq), by simp, fun b hb => ?_, fun b hb z => ?_⟩
            · rw [List.mem_singleton.mp hb]; exact .inl np
            · rw [List.mem_singleton.mp hb] at z; exact (s1.env.there z).1 np
      · cases e1
    · cases e1
/-! ### place.remove(e), the first that is alike -/
def rRemD (K : Fg) : V → List V → Hp → VK → Prop := fun x xs H Q => ∃ (a : Addr) (y : V) (d : PyData) (vs : List V) (ds : List PyData) (j : Nat), x = .ref a ∧ xs = [y] ∧ H a = some (.lst vs) ∧ DpAll K H vs ds ∧ Dp K H y d ∧
  SeqAt.shaped (.list ds) = true ∧ SeqAt.shaped d = true ∧ SeqAt.dataPlace ds d = some j ∧ Q .non (upd H a (.lst (vs.eraseIdx j)))
theorem mt_remD (hu : X.A.units + 65 < cLine) : MtM X "list.remove" (rRemD X.K) := by
  intro pins s σ H x xs v us Q I rx rxs h
  obtain ⟨a, y, d, vs, ds, j, rfl, rfl, hH, hd, hy, sl, sd, hj, q⟩ := h
  cases rx
  obtain ⟨u, rfl, ru⟩ := rxs.one
  obtain ⟨bs, r1⟩ := Dp.reads I d y u hy ru
  obtain ⟨z, its, n, r, hl, e0⟩ := I.lstM hH
  obtain ⟨as, r2⟩ := Dp.readsAll I ds vs its hd r
  have hxs : PyData.canLayAll0 ds = true := SeqAt.canLay_of_shaped sl
  have hroom : X.A.units + 1 + min (PyData.depthAll ds) d.depth < cLine := room_in_shaped sd hu
  refine SeqAt.remove_list_data (vs := its.toArray) (l := a) ⟨_, e0, rfl, n, rfl⟩ r2 r1 ?_ ?_ hroom hj (by rw [List.size_toArray, ← hl]; exact z) ?_
  · exact PyData.plainAll_of_canLay0 ds hxs
  · exact PyData.plain_of_canLay0 d (SeqAt.canLay_of_shaped sd)
  · refine ⟨.non, _, I.lset (its' := its.eraseIdx j) hH e0 ?_ (r.eraseIdx j) ?_, rfl, q⟩
    · show its.toArray.eraseIdxIfInBounds j = (its.eraseIdx j).toArray
      rw [List.eraseIdxIfInBounds_toArray]
    · have := List.length_eraseIdx_le vs j
      omega
def rem1 (T2 : List Nat) (r : Nat × List Nat) (x : Rv) : MS := fun ρ => if T2.contains r.1 || !modeOk ρ r.1 then none else match treeAt ρ r, x with
  | some (.lst ts), .d d => (match flat ts with
    | some ds => if SeqAt.shaped (.list ds) && SeqAt.shaped d then (match SeqAt.dataPlace ds d with
      | some j => some (.nx (putAt ρ r (.lst ((ds.eraseIdx j).map .dat))))
      | none => none) else none
    | none => none)
  | _, _ => none
def sRem (T2 : List Nat) (f : M (Nat × List Nat)) (g : M Rv) : MS := sE f fun r => fun ρ => if isLst (treeAt ρ r) then sE g (rem1 T2 r) ρ else none
variable {fp1 : M (Nat × List Nat)} {fa : M Rv} {o i e : Expr} {apos cpos : Pos}
theorem vs_rem (hu : X.A.units + 65 < cLine) (ho : VP X T1 W o fp1) (hn : VE X T2 W e fa) (hT : T2 = T3 := by rfl) (hbase : attributeBase o "remove" X.env (eval o X.env) = eval o X.env := by rfl)
    (hfew : ((backTo cpos (starEach [e] X.env)).all (fun x => !x.1) && (backToKw cpos (keywordEach [] X.env)).all (fun x => x.1.isSome)
      && decide (([e] : List Expr).length + ([] : List Keyword).length + (if ([] : List Keyword).isEmpty then 0 else 1) < 30)) = true := by rfl)
    (hline : (apos.endLine == cpos.line) = true := by rfl) (hst : starEach [e] X.env = (false, eval e X.env) :: starEach [] X.env := by rfl) (hplain : (backTo cpos (starEach [] X.env)).any (·.1) = false := by rfl)
    (hs : swapsWith (.Call (.Attribute o "remove" apos) [e] [] cpos) none pos.line X.env = pure false := by rfl) :
    VS X W (.Expr (.Call (.Attribute o "remove" apos) [e] [] cpos) pos) (sRem T3 fp1 fa) :=
  ps_imp (ps_expr (pe_bm PySem.F.plainAttrs_list PySem.F.slot_list_remove PySem.F.type_list_remove (mt_remD hu) ho (pa_cons hn pa_nil hst) hbase hfew hline hst hplain) hs) fun D σ H ⟨F, ρ, fp, ou, E, q, P⟩ => by
    subst hT
    refine tv_st E q P fun r ρ1 v H1 F1 fp1 s1 r1 e1 P1 => ?_
    split at e1
    · rename_i hl
      refine ⟨place_list s1.env r1 hl, ?_⟩
      refine tv_st (T := T2) s1.env e1 P1 fun x ρ2 w H2 F2 fp2 s2 r2 e2 _ => ?_
      unfold rem1 at e2
      split at e2
      · cases e2
      · rename_i hc
        obtain ⟨hT, hc'⟩ := touch_of hc
        have pl := place_step s1.env s2 hT r1
        split at e2
        · rename_i ts d hts
          split at e2
          · rename_i ds hfl
            split at e2
            · rename_i hz
              rw [Bool.and_eq_true] at hz
              split at e2
              · rename_i j hj
                cases (Option.some.inj e2)
                obtain ⟨a, vs, rfl, ha, hd, st⟩ := mut_dat s2 hc' pl hts hfl
                obtain ⟨fp', st⟩ := st (vs.eraseIdx j) (ds.eraseIdx j) (dqAll_erase hd)
                have r2' : Dq X.K F2 w d := r2
                exact ⟨a, w, d, vs, ds, j, rfl, rfl, ha, dqAll_dp ds _ (SeqAt.canLay_of_shaped hz.1) (dqAll_mono s2.env.sub _ _ hd), dq_dp d _ (SeqAt.canLay_of_shaped hz.2) (dq_mono s2.env.sub _ _ r2'), hz.1, hz.2, hj, P1 σ _ F2 fp' st.st⟩
              · cases e2
            · cases e2
          · cases e2
        · cases e2
    · cases e1
/-! ### d[k] op= e, tuples as keys, numbers as values -/
def dAug2 (T3 : List Nat) (f : Int → Int → Int) (r : Nat × List Nat) (kd : PyData) (j : Int) (y : Rv) : MS := match y with
  | .d (.int k) => dPut1 T3 (.int (f j k)) r (.d kd)
  | _ => fun _ => none
def dAug1 (T2 T3 : List Nat) (f : Int → Int → Int) (r : Nat × List Nat) (fe : M Rv) (y : Rv) : MS := fun ρ => if T2.contains r.1 then none else match y, treeAt ρ r with
  | .d kd, some (.dt kvs) => (match dictAt (.dt kvs) kd with
    | some (some (.int j)) => sE fe (dAug2 T3 f r kd j) ρ
    | _ => none)
  | _, _ => none
def sDAugT (T2 T3 : List Nat) (f : Int → Int → Int) (fo : M (Nat × List Nat)) (fi fe : M Rv) : MS := sE fo fun r => sE fi (dAug1 T2 T3 f r fe)
variable {fi fe : M Rv} {tpos : Pos}
theorem vs_daugT {op : Operator} {f : Int → Int → Int} (hu : X.A.units + 1 < cLine) (ho : VP X T1 W o fp1) (hi : VE X T2 W i fi) (he : VE X T3 W e fe) (hp : InOp X op fun x y H Q => ∃ i j, x = .int i ∧ y = .int j ∧ Q (.int (f i j)) H) (hT : T2 = T4 := by rfl) (hT' : T3 = T5 := by rfl)
    (ha : ∀ ov iv new, augStore i ov iv new = (do holding [new, ov, iv] (setItem ov iv new); release [new, ov, iv] []; pure .next) := by intros; rfl) :
    VS X W (.AugAssign (.Subscript o i tpos) op e pos) (sDAugT T4 T5 f fp1 fi fe) :=
  ps_imp (ps_daug hu ho hi he hp ha) fun D σ H ⟨F, ρ, fp, ou, E, q, P⟩ => by
    subst hT; subst hT'
    refine tv_st E q P fun r ρ1 v H1 F1 fp1 s1 r1 e1 P1 => ?_
    refine tv_st (T := T2) s1.env e1 P1 fun y ρ2 w H2 F2 fp2 s2 r2 e2 P2 => ?_
    unfold dAug1 at e2
    split at e2
    · cases e2
    · rename_i hc
      have pl := place_step s1.env s2 (not_in hc) r1
      split at e2
      · rename_i kd kvs hts
        split at e2
        · rename_i j hj
          obtain ⟨B, qB, hB⟩ := place_get s2.env pl hts
          obtain ⟨a, oo, rfl, g, g1, g2⟩ := dict_get s2.env.sub qB (show Dq X.K F2 w kd from r2) hj
          obtain ⟨x, rfl, hx⟩ := g2 _ rfl
          cases hx
          refine ⟨a, .int j, rfl, g, ?_⟩
          refine tv_st (T := T3) s2.env e2 P2 fun z ρ3 u H3 F3 fp3 s3 r3 e3 P3 => ?_
          unfold dAug2 at e3
          split at e3
          · rename_i k
            cases r3
            refine ⟨j, k, rfl, rfl, ?_⟩
            unfold dPut1 at e3
            split at e3
            · cases e3
            · rename_i hc3
              obtain ⟨hT3, hc'⟩ := touch_of hc3
              have pl3 := place_step s2.env s3 hT3 pl
              have r2' : Dq X.K F3 w kd := dq_mono s3.st.fr _ _ r2
              have hts3 : treeAt ρ3 r = some (.dt kvs) := by
                have hu := (s3.un r.1 hT3).1
                unfold treeAt at hts ⊢
                rw [hu]; exact hts
              rw [hts3] at e3
              simp only at e3
              split at e3
              · rename_i kk ds hk hds
                split at e3
                · rename_i hsm
                  cases (Option.some.inj e3)
                  obtain ⟨b, rfl, hbk⟩ := keyT_ok r2' hk
                  obtain ⟨B, qB, hB⟩ := place_get s3.env pl3 hts3
                  obtain ⟨u, m, t, t', h1, h2, h3, h4⟩ := pl3
                  have ht' : t.at r.2 = some (.dt kvs) := by
                    unfold treeAt at hts3
                    rw [h2] at hts3
                    exact hts3
                  cases qB with
                  | @dt a' vs _ B0 f1 f2 f3 f4 =>
                    obtain ⟨_, pr⟩ := dats_ok f3 f4 hds
                    have pp := prs_put (k := kk) (Dq.int (K := X.K) (H := F3) (f j k)) pr
                    obtain ⟨fp', st, _⟩ := mut_step (A := []) (o := .dT (putK vs kk (.int (f j k)))) (t'' := .dt (toT (putP ds kk (.int (f j k))))) s3 h2 (mode_of hc' h2) h1 ht' h4 (fun b hb => nomatch hb) List.nodup_nil (fun b hb => nomatch hb) fun B1 q1 nB1 _ => by
                      cases q1 with
                      | @dt a _ _ B2 g1 g2 g3 g4 =>
                        refine ⟨List.mem_cons_self, [a], .dt upd_same g2 (by rw [toT_fst]; exact pp.1) ?_, by simp, fun b hb => .inl ?_⟩
                        · rw [toT_snd]
                          exact trs_dat pp.2
                        · rw [List.mem_singleton.mp hb]; exact List.mem_cons_self
                    have e : putAt ρ3 r (.dt (toT (putP ds kk (.int (f j k))))) = ρ3.set r.1 (.own m (t.put r.2 (.dt (toT (putP ds kk (.int (f j k))))))) := by
                      unfold putAt
                      rw [h2]
                    have hl : vs.length = ds.length := by
                      have := congrArg List.length pr.1
                      simpa using this
                    refine ⟨_, DPut.t f1 (s3.env.sub _ _ hbk) (by have := small_iff.mp hsm; omega), P2 σ _ F3 fp' ?_⟩
                    rw [e]
                    exact st.st
                · cases e3
              · cases e3
          · cases e3
        · cases e2
      · cases e2
end
end VL

end

section
set_option Elab.async false
set_option linter.all false
set_option maxRecDepth 100000
/-! for k in d, d a dict with tuples as keys, locked meanwhile -/
namespace VL
open PySem PySem.Spec PyProof.Rows L2
section
variable {X : Cx} {T : List Nat} {W : WV} {K : Fg} {pos : Pos}
def keyTD (k : List Key) : PyData := .tuple (k.map keyPD)
theorem dqAll_keys {F : Hp} : ∀ {k : List Key}, DqAll K F (k.map kV) (k.map keyPD)
  | [] => .nil
  | _ :: _ => .cons keyPD_ok dqAll_keys
def lockT (ρ : Rho) (i : Nat) : Option (Sl × List (List Key × PyData)) := if modeOk ρ i then (match ρ[i]? with
  | some (.own m (.dt ts)) => (match dats ts with
    | some ds => some (.own m (.dt ts), ds)
    | none => none)
  | _ => none) else none
def sForKT (i : Nat) (G : MG) (g : MS) : MS := fun ρ => match lockT ρ i with
  | some (s, ds) => (match loopF G g (ds.map fun kv => keyTD kv.1) (ρ.set i (.own .lock (.ft ds))) with
    | some (.nx ρ2) => some (.nx (ρ2.set i s))
    | _ => none)
  | none => none
/-- a tuple of numbers and texts is frozen -/
theorem grow_key {F H : Hp} {σ : Sg} {ρ : Rho} {fp : FP} {q : Addr} {k : List Key} (E : EnvOk K F H σ ρ fp) (hq : H q = some (.tup (k.map kV))) : Grow2 K F H (upd F q (.tup (k.map kV))) H := by
  have sF : Same F (upd F q (.tup (k.map kV))) := fun b o e => by
    by_cases z : b = q
    · subst z
      have := E.sub b o e
      rw [hq] at this
      rw [upd_same]
      exact this
    · rw [upd_ne z]; exact e
  have sH : Same (upd F q (.tup (k.map kV))) H := fun b o e => by
    by_cases z : b = q
    · subst z
      rw [upd_same] at e
      rw [hq]
      exact e
    · rw [upd_ne z] at e; exact E.sub b o e
  refine ⟨fun b o h _ => h, fun b h => h, sF, sH, fun b h h' => ?_, E.tb.mono sF fun P ps h1 h2 => ⟨?_, rfl⟩⟩
  · by_cases z : b = q
    · subst z; exact .inr (.inl ⟨k, hq⟩)
    · rw [upd_ne z] at h'; exact absurd h h'
  · rw [upd_ne fun z => by subst z; rw [hq] at h1; cases h1]
    exact h2
theorem vs_forKT (i : Nat) {tg : Expr} {gt : TG} {ws : List Nat} {G : MG} {g : MS} {body : List Stmt} {x : Str} {px : Pos} (hp : PassesOwn (model X.prog X.w) X.A X.env X.xe) (hc : X.calm = true) (hg : VG X tg gt ws G) (hb : VSs X W body g)
    (hN : X.N[i]? = some x := by rfl) (hv : Vis X.env.scope x := by first | exact Or.inl rfl | exact Or.inr (Or.inl rfl) | exact Or.inr (Or.inr rfl)) (hd : (x == ("__debug__" : Str)) = false := by decide)
    (hcd : (x == ("__classdict__" : Str)) = false := by decide) (hs : ∀ y, foldedSetIterable (.Name x px) X.env y = pure y := by intro _; rfl) : VS X W (.For tg (.Name x px) body [] pos) (sForKT i G g) := by
  obtain ⟨p2, q2⟩ := hg
  refine ps_imp (ps_lock (ps_for hp hc (pi_keys (pe_var hN hv hd hcd)) p2 hb hs)) fun D σ H ⟨F, ρ, fp, o, E, q, P⟩ => ?_
  unfold sForKT at q
  cases hL : lockT ρ i with
  | none => rw [hL] at q; cases q
  | some r =>
    obtain ⟨s0, ds⟩ := r
    rw [hL] at q
    simp only at q
    unfold lockT at hL
    split at hL
    · rename_i hm
      split at hL
      · rename_i m ts hi
        split at hL
        · rename_i ds' hds
          cases hL
          have hml := (mode_of (r := []) hm hi).1
          obtain ⟨u0, eu, tk⟩ := E.sl i _ hi
          have hil : i < ρ.length := (List.getElem?_eq_some_iff.mp hi).1
          generalize hA : fp i = A0 at tk
          cases tk with
          | @dt d vs _ A f1 f2 f3 f4 =>
            obtain ⟨hA0, pr⟩ := dats_ok f3 f4 hds
            subst hA0
            have hfp : fp i = [d] := hA
            have dI : ∀ j, j ≠ i → ∀ b ∈ fp j, b ≠ d := fun j hj b hb z => hj (E.ap j i b hb (by rw [hfp, z]; simp))
            refine ⟨d, .dT vs, f1, True.intro, fun od => ?_⟩
            have ne0 : ∀ b, b ≠ d → upd H d (.frz od (.dT vs)) b = H b := fun b hb => upd_ne hb
            have al1 : AlOk (upd H d (.frz od (.dT vs))) σ (ρ.set i (.own .lock (.ft ds))) := al_set2 E hil rfl fun k hk b hb => ne0 b (dI k hk b hb)
            have E1 : EnvOk X.K F (upd H d (.frz od (.dT vs))) σ (ρ.set i (.own .lock (.ft ds))) fp := by
              refine ⟨fun b o e => ?_, by rw [List.length_set]; exact E.len, fun j s hs => ?_, fun j hj => ?_, E.nd, E.ap, E.tb.upd (fun ps z => nomatch f1.symm.trans z), al1⟩
              · rw [ne0 b fun z => by rw [z, f2] at e; cases e]
                exact E.sub b o e
              · by_cases hj : i = j
                · subst hj
                  rw [List.getElem?_set_self hil] at hs
                  cases hs
                  rw [hfp]
                  exact ⟨_, eu, .ft upd_same f2 pr⟩
                · rw [List.getElem?_set_ne hj] at hs
                  have z := E.sl j s hs
                  cases s with
                  | no => trivial
                  | al _ _ => trivial
                  | val d => exact z
                  | own m t =>
                    obtain ⟨w, e1, e2⟩ := z
                    exact ⟨w, e1, e2.move (Same.refl _) fun b hb => ⟨ne0 b (dI j (Ne.symm hj) b hb), (e2.mem b hb).2⟩⟩
              · by_cases hji : i = j
                · subst hji
                  exact absurd (List.getElem?_set_self hil) (hj .lock (.ft ds))
                · refine E.nil j fun m t z => hj m t ?_
                  rw [List.getElem?_set_ne hji]; exact z
            cases hf : loopF G g (ds.map fun kv => keyTD kv.1) (ρ.set i (.own .lock (.ft ds))) with
            | none => rw [hf] at q; cases q
            | some r =>
              rw [hf] at q
              cases r with
              | rt _ _ => cases q
              | bk _ => cases q
              | ct _ => cases q
              | ex _ _ => cases q
              | nx ρ2 =>
                cases (Option.some.inj q)
                have fin : ∀ σ' H' F' fp', Step X.K F (upd H d (.frz od (.dT vs))) σ (ρ.set i (.own .lock (.ft ds))) fp F' H' σ' ρ2 fp' → H' d = some (.frz od (.dT vs)) ∧ D.nx σ' (upd H' d (.dT vs)) := fun σ' H' F' fp' s => by
                  obtain ⟨l1, l2, l3, l4⟩ := s.lock i _ (List.getElem?_set_self hil)
                  have hd' : H' d = some (.frz od (.dT vs)) := (l4 d (by rw [hfp]; simp)).trans upd_same
                  have hfp' : fp' i = [d] := l3.trans hfp
                  have nFd : F' d = none := by
                    obtain ⟨_, _, z⟩ := s.env.sl i _ l2
                    exact (z.mem d (by rw [hfp']; simp)).2
                  refine ⟨hd', ?_⟩
                  have dI' : ∀ j, j ≠ i → ∀ b ∈ fp' j, b ≠ d := fun j hj b hb z => hj (s.env.ap j i b hb (by rw [hfp', z]; simp))
                  have hil2 : i < ρ2.length := (List.getElem?_eq_some_iff.mp l2).1
                  have h1n : ∀ b, upd H d (.frz od (.dT vs)) b = none → H b = none := fun b hb => by
                    by_cases z : b = d
                    · rw [z, upd_same] at hb; cases hb
                    · rw [ne0 b z] at hb; exact hb
                  have al2 : AlOk (upd H' d (.dT vs)) σ' (ρ2.set i (.own m (.dt ts))) := al_set2 s.env hil2 (by have := mode_nb hm hi; cases m <;> first | rfl | cases this) fun k hk b hb => upd_ne (dI' k hk b hb)
                  have E2 : EnvOk X.K F' (upd H' d (.dT vs)) σ' (ρ2.set i (.own m (.dt ts))) fp' := by
                    refine ⟨fun b o e => ?_, by rw [List.length_set]; exact s.env.len, fun j sl hs => ?_, fun j hj => ?_, s.env.nd, s.env.ap, s.env.tb.upd (fun ps z => nomatch hd'.symm.trans z), al2⟩
                    · rw [upd_ne fun z => by rw [z, nFd] at e; cases e]
                      exact s.env.sub b o e
                    · by_cases hj : i = j
                      · subst hj
                        rw [List.getElem?_set_self hil2] at hs
                        cases hs
                        rw [hfp']
                        exact ⟨_, l1.trans eu, .dt upd_same nFd f3 (f4.move s.fr fun b hb => nomatch hb)⟩
                      · rw [List.getElem?_set_ne hj] at hs
                        have z := s.env.sl j sl hs
                        cases sl with
                        | no => trivial
                        | al _ _ => trivial
                        | val d => exact z
                        | own m t =>
                          obtain ⟨w, e1, e2⟩ := z
                          exact ⟨w, e1, e2.move (Same.refl _) fun b hb => ⟨upd_ne (dI' j (Ne.symm hj) b hb), (e2.mem b hb).2⟩⟩
                    · by_cases hji : i = j
                      · subst hji
                        exact absurd (List.getElem?_set_self hil2) (hj m (.dt ts))
                      · refine s.env.nil j fun m t z => hj m t ?_
                        rw [List.getElem?_set_ne hji]; exact z
                  refine P σ' (upd H' d (.dT vs)) F' fp' ⟨E2, s.fr, fun b h h' => (s.nf b h h').imp (h1n b) (Or.imp_right fun z => z.upd (fun _ z => nomatch z) (fun _ z => nomatch z)), fun b hb => ?_, fun b o hb hn nt => ?_, fun b hb => (s.own b hb).imp_right (h1n b), fun j mj t hj hmj => ?_, fun j t hj => ?_⟩
                  · by_cases z : b = d
                    · rw [z, upd_same] at hb; cases hb
                    · rw [upd_ne z] at hb; exact h1n b (s.dom b hb)
                  · have z : b ≠ d := fun z => hn ⟨i, by rw [hfp, z]; simp⟩
                    rw [upd_ne z]
                    exact s.frame b o ((ne0 b z).trans hb) hn nt
                  · by_cases hji : i = j
                    · subst hji
                      rw [hi] at hj; cases hj
                      exact ⟨l1, _, _, List.getElem?_set_self hil2, hmj⟩
                    · obtain ⟨a1, m', t', a2, a3⟩ := s.pin j mj t (by rw [List.getElem?_set_ne hji]; exact hj) hmj
                      exact ⟨a1, m', t', by rw [List.getElem?_set_ne hji]; exact a2, a3⟩
                  · have hji : i ≠ j := fun z => by subst z; rw [hi] at hj; cases hj; exact hml rfl
                    obtain ⟨a1, a2, a3, a4⟩ := s.lock j t (by rw [List.getElem?_set_ne hji]; exact hj)
                    refine ⟨a1, by rw [List.getElem?_set_ne hji]; exact a2, a3, fun b hb => ?_⟩
                    have z := dI j (Ne.symm hji) b hb
                    rw [upd_ne z, a4 b hb, ne0 b z]
                have hlen : vs.length = ds.length := by
                  have := congrArg List.length pr.1
                  simpa using this
                refine ⟨_, sg_some.mp eu, d, od, rfl, .inr ⟨vs, upd_same, for_it (walk_keysT (d := d) (o := od) (kvs := vs)) (fun k σ' H' => ∃ F' ρ' fp', Step X.K F (upd H d (.frz od (.dT vs))) σ (ρ.set i (.own .lock (.ft ds))) fp F' H' σ' ρ' fp' ∧ loopF G g ((ds.map fun kv => keyTD kv.1).drop k) ρ' = some (.nx ρ2))
                  ⟨F, _, fp, .refl E1, by rw [List.drop_zero]; exact hf⟩ (fun k σ' H' _ ⟨F', ρ', fp', s2, _⟩ => ?_) (fun k y σ' H' H3 hk ⟨F', ρ', fp', s2, e2⟩ yy => ?_) fun σ' H' ⟨F', ρ', fp', s2, e2⟩ => ?_⟩⟩
                · obtain ⟨_, _, _, l4⟩ := s2.lock i _ (List.getElem?_set_self hil)
                  exact (l4 d (by rw [hfp]; simp)).trans upd_same
                · obtain ⟨rfl, kk, v, a, hkv, rfl, ha⟩ := yy
                  have g3 := grow_key s2.env ha
                  have s3 := s2.trans (g3.step (T := []) s2.env).st
                  have dx : Dq X.K (upd F' a (.tup (kk.map kV))) (.ref a) (keyTD kk) := .tup upd_same dqAll_keys
                  have hkd : (ds.map fun kv => keyTD kv.1)[k]? = some (keyTD kk) := by
                    have e1 : (vs.map (·.1))[k]? = some kk := by rw [List.getElem?_map, hkv]; rfl
                    rw [pr.1, List.getElem?_map] at e1
                    obtain ⟨kv, e2, e3⟩ := Option.map_eq_some_iff.mp e1
                    rw [List.getElem?_map, e2, ← e3]
                    rfl
                  have hdrop : (ds.map fun kv => keyTD kv.1).drop k = keyTD kk :: (ds.map fun kv => keyTD kv.1).drop (k + 1) := by
                    obtain ⟨hi', hd'⟩ := List.getElem?_eq_some_iff.mp hkd
                    rw [List.drop_eq_getElem_cons hi', hd']
                  rw [hdrop] at e2
                  unfold loopF at e2
                  split at e2
                  · cases e2
                  · rename_i ρ4 h4
                    refine q2 _ σ' _ _ _ ρ' fp' _ ρ4 s3.env dx h4 fun σ4 fp4 s4 _ => ?_
                    have s5 := s3.trans s4
                    split at e2
                    · rename_i ρ5 h5
                      exact ⟨_, ρ4, fp4, _, s4.env, h5, fun σ6 H6 F6 fp6 s6 => ⟨F6, ρ5, fp6, s5.trans s6, e2⟩⟩
                    · rename_i ρ5 h5
                      exact ⟨_, ρ4, fp4, _, s4.env, h5, fun σ6 H6 F6 fp6 s6 => ⟨F6, ρ5, fp6, s5.trans s6, e2⟩⟩
                    · rename_i ρ5 h5
                      cases e2
                      exact ⟨_, ρ4, fp4, _, s4.env, h5, fun σ6 H6 F6 fp6 s6 => fin σ6 H6 F6 fp6 (s5.trans s6)⟩
                    · rename_i h1' h2' h3'
                      exact absurd e2 (h1' ρ2)
                · rw [hlen, ← List.length_map (f := fun kv : List Key × PyData => keyTD kv.1), List.drop_length] at e2
                  cases (Option.some.inj e2)
                  exact fin σ' H' F' fp' s2
        · cases hL
      · cases hL
    · cases hL
end
end VL

end

section
set_option Elab.async false
set_option linter.all false
set_option maxRecDepth 100000
set_option maxHeartbeats 1000000
/-! sorted(near, key=lambda price: (abs(price - called), 0 - price)): the one lambda of the program -/
namespace VL
open PySem PySem.Spec PyProof.Rows L2 PySem.W

theorem tab_mk {K : Fg} {f c P : Addr} {oc te : Value} {od td : Option Addr} {fd : FuncData} {sl tsl : Array (Option Value)} {vs : Array Value} (ha : nsIn K mainGlobals "price_meant" = some (some (.ref f))) (hl : K.lookup f = some ⟨oc, od, .func fd, sl⟩) (hc : fd.code = .ref c) (hk : K.lookup c = some ⟨te, td, .fields vs, tsl⟩) (hv : vs[11]? = some (.ref P)) :
    tabIn K "price_meant" = some (c, P) := by
  unfold tabIn
  rw [ha]
  simp only [hl, hc, hk, hv]
abbrev lamQ : Str := "price_meant.<locals>.<lambda>"
/-- the key of a price -/
def kPM (c n : Int) : PyData := .tuple [.int (if n - c < 0 then -(n - c) else n - c), .int (0 - n)]
theorem kPM_depth (c n : Int) : (kPM c n).depth ≤ 60 := by
  unfold kPM
  simp [PyData.depth, PyData.depthAll]
def pmSort (c : Int) (ns : List Int) : List Int := ns.mergeSort (dataLe false (kPM c))
section
variable {X : Cx} {pins : List (Addr × Obj)} {σ : L2.St} {H : Hp} {s : Shared}
/-- the lambda is made: its code object is new, or found in the table -/
theorem lam_makeT {F : Hp} {c P : Addr} {params : Arguments} {body : Expr} {scope : Scope} {pos : Pos} {E : Value → Shared → Prop} {Q : Value → Shared → Prop} (I : L2.Inv X pins σ H s) (TB : LamX.TabB X.base X.mg c P) (hcode : X.env.code = .ref c) (hp : tabIn X.K "price_meant" = some (c, P))
    (hq : X.env.qual ++ "<lambda>" = lamQ) (sF : Same F H) (hT : TbOk X.K F H) (hdef : defaultsOf params X.env = ([], [])) (hfree : ∀ y ∈ scope.names, y.2 = .free → ∃ c, X.env.cells.lookup y.1 = some c)
    (h : ∀ (f c' : Addr) (pm ctv : Value) (F1 H1 : Hp) (s' : Shared), L2.Inv X pins σ H1 s' → Grow2 X.K F H F1 H1 →
      s'.heap.get? f = some (kla_obj "<lambda>" lamQ params body scope (cloFrom X.env.cells scope.names []) pm c' ctv) → s'.heap.CodeRec (.ref c') lamQ → Q (.ref f) s') :
    wpAny (model X.prog X.w) X.A (eval (.Lambda params body scope pos) X.env) Q E s := by
  obtain ⟨nF, ps, hP, ht, ha⟩ := hT c P hp
  refine kla_eval hdef ?_
  rw [hq]
  have bP : s.heap.BuiltinsAt X.mg P := TB.bm.keeps I.bk
  have hP' : s.heap.get? P = some { cls := .none, data := .fields ps } := I.hok P _ hP
  cases hc : codeAmong pos ps.toList with
  | none =>
    refine kla_makeFunction (mg := X.mg) (c := c) (P := P) (ps := ps) (closure_ok hfree) I.ok.glob (I.mod.glob.keeps I.bk) hcode (TB.code.keeps I.bk) hP' ht hc TB.gP bP fun c' ctv h' tk hx hge hlt hrec htb => ?_
    obtain ⟨c2, oc, vs, t, e2, hoc, hd, hv⟩ := hrec
    cases e2
    have nC : H c' = none := I.hok.fresh hge
    have nPc : P ≠ c' := ne_of_none hP nC
    have eL : (ps ++ #[rawInt pos.line, rawInt pos.col, .ref c']).toList = ps.toList ++ [rawInt pos.line, rawInt pos.col, .ref c'] := by simp
    have I1 := LamX.inv_table (t' := tk) (more := #[rawInt pos.line, rawInt pos.col, .ref c']) (h' := h'.push (kla_obj "<lambda>" lamQ params body scope (cloFrom X.env.cells scope.names []) ((X.mg "__name__").getD .none) c' ctv)) I hP
      (fun b o hb e => Heap.get?_push_of_some _ (hx b o hb e)) (Heap.get?_push_of_some _ htb) hge ⟨oc, vs, t, Heap.get?_push_of_some _ hoc, hd, hv⟩
    refine h h'.objs.size c' ((X.mg "__name__").getD .none) ctv (upd F c' (LamX.CodeO c' lamQ)) _ _ I1 ⟨fun b o e n => ?_, fun b e => ?_, same_upd (sF.free nC), fun b o e => ?_, fun b e e' => ?_, fun c0 P0 e0 => ?_⟩ (Heap.get?_push_size _ rfl) ⟨c', oc, vs, t, rfl, Heap.get?_push_of_some _ hoc, hd, hv⟩
    · rw [upd_ne (ne_of_none e nC), upd_ne fun z => n ps (Option.some.inj (e.symm.trans (by rw [z]; exact hP)))]
      exact e
    · by_cases h1 : b = c'
      · rw [h1]; exact nC
      · rw [upd_ne h1] at e
        by_cases h2 : b = P
        · rw [h2, upd_same] at e; cases e
        · rw [upd_ne h2] at e; exact e
    · by_cases h1 : b = c'
      · rw [h1, upd_same] at e ⊢; exact e
      · rw [upd_ne h1] at e ⊢
        rw [upd_ne fun z => by rw [z, nF] at e; cases e]
        exact sF b o e
    · by_cases h1 : b = c'
      · rw [h1]; exact .inl nC
      · rw [upd_ne h1] at e'; exact absurd e e'
    · rw [hp] at e0
      cases e0
      refine ⟨by rw [upd_ne nPc]; exact nF, _, by rw [upd_ne nPc, upd_same], by rw [eL]; exact PySem.TriplesOk_snoc _ _ _ _ ht, fun p' cv hcv => ?_⟩
      rw [eL] at hcv
      rcases LamX.among_app _ ht hcv with z | z
      · obtain ⟨c0, e1, e2⟩ := ha p' cv z
        exact ⟨c0, e1, same_upd (sF.free nC) _ _ e2⟩
      · exact ⟨c', z, upd_same⟩
  | some cv =>
    obtain ⟨c', e, hco⟩ := ha pos cv hc
    subst e
    refine kla_makeFunctionHit (mg := X.mg) (c := c) (P := P) (ps := ps) (closure_ok hfree) I.ok.glob (I.mod.glob.keeps I.bk) hcode (TB.code.keeps I.bk) hP' ht hc bP fun ctv h' tk hx hsz => ?_
    have I1 : L2.Inv X pins σ H { s with heap := h'.push (kla_obj "<lambda>" lamQ params body scope (cloFrom X.env.cells scope.names []) ((X.mg "__name__").getD .none) c' ctv), toks := tk } := I.kept fun b o e => Heap.get?_push_of_some _ (hx b o e)
    refine h h'.objs.size c' ((X.mg "__name__").getD .none) ctv F H _ I1 ⟨fun b o e _ => e, fun b e => e, Same.refl _, sF, fun b e e' => absurd e e', hT⟩ (Heap.get?_push_size _ rfl) ?_
    obtain ⟨⟨oc, vs, t, hoc, hdc, hvc⟩, _, _⟩ := I1.hok c' _ (sF _ _ hco)
    exact ⟨c', oc, vs, t, rfl, hoc, hdc, hvc⟩
/-- its body -/
abbrev lamB (p1 p2 p3 p4 p5 p6 p7 p8 p10 : Pos) (k6 k9 : Nat) : Expr :=
  .Tuple [.Call (.Name "abs" p1) [.BinOp (.Name "price" p2) .Sub (.Name "called" p3) p4] [] p5, .BinOp (.Constant (.int 0) k6 p6) .Sub (.Name "price" p7) p8] k9 p10
/-- its call -/
theorem lam_call {A : Around} {K : Fg} {mg mb : Str → Option Value} {prog : Program} {w : World} {s : Shared} {p1 p2 p3 p4 p5 p6 p7 p8 p10 : Pos} {k6 k9 : Nat} {params : Arguments} {scope : Scope} {cl : List (Str × Addr)} {pm ctv : Value} {f c' cc : Addr} {n c : Int} {t tc : Tok} (hroom : A.depth < recursionLimit)
    (ho : s.heap.get? f = some (kla_obj "<lambda>" lamQ params (lamB p1 p2 p3 p4 p5 p6 p7 p8 p10 k6 k9) scope cl pm c' ctv)) (hcd : s.heap.CodeRec (.ref c') lamQ)
    (hg : s.heap.Ns mainGlobals mg) (hm : mg "abs" = none) (hb : s.heap.Ns builtinsNs mb) (hbb : ∀ x : Str, x ≠ "__name__" → mb x = bootBuiltins x) (hlim : s.heap.NoLimit) (hcl : cl.lookup ("called" : Str) = some cc) (hcell : s.heap.IsCell cc (some (.int c tc)))
    (hk : scope.kind = .function) (hco : scope.isCoroutine = false) (hgen : scope.isGenerator = false) (hn : scope.names = [((("price" : Str)), NameKind.local), (("called" : Str), NameKind.free), (("abs" : Str), NameKind.globalImplicit)])
    (hbind : bindArgs (kla_fn "<lambda>" lamQ params (lamB p1 p2 p3 p4 p5 p6 p7 p8 p10 k6 k9) scope cl pm (.ref c') ctv) ⟨[.int n t], []⟩ = pure [(("price" : Str), Value.int n t)]) :
    wpAny (model prog w) A (call (.ref f) [.int n t]) (KeyPure (kPM c n) s) (fun _ _ => False) s := by
  refine wpAny_call ?_
  refine kla_callFunE hroom ho rfl hco hgen rfl hcd ?_
  rw [hbind]
  refine wpAny_pure (wpAny_newFunctionEnv (fun y hy => ?_) (fun y hy => ?_) (fun h₁ hns hsb => ⟨hlim.fresh _ hsb, ?_⟩) hk)
  · rw [show (kla_fn "<lambda>" lamQ params (lamB p1 p2 p3 p4 p5 p6 p7 p8 p10 k6 k9) scope cl pm (.ref c') ctv).scope = scope from rfl, hn] at hy
    simp only [List.mem_cons, List.not_mem_nil, or_false] at hy
    rcases hy with rfl | rfl | rfl <;> exact fun z => nomatch z
  · simp only [List.mem_cons, List.not_mem_nil, or_false] at hy
    subst hy
    show scope.names.lookup _ = _
    rw [hn]
    rfl
  have kp : ∀ b o, s.heap.get? b = some o → h₁.get? b = some o := fun b o e => hsb.extBut b o (Nat.ne_of_lt (Heap.lt_size e)) (Heap.get?_push_of_some _ e)
  show codeAny _ _ (.expr (lamB p1 p2 p3 p4 p5 p6 p7 p8 p10 k6 k9) (envX lamQ scope s.heap.objs.size f (.ref c') cl)) _ _
  have kP : ∀ (tk : Nat) (E : Value → Shared → Prop) (Q : Value → Shared → Prop) (px : Pos), Q (.int n t) { s with heap := h₁, toks := tk } → wpAny (model prog w) (A.deeper (envX lamQ scope s.heap.objs.size f (.ref c') cl)) (eval (.Name "price" px) (envX lamQ scope s.heap.objs.size f (.ref c') cl)) Q E { s with heap := h₁, toks := tk } := fun tk E Q px q => by
    refine wpAny_Name (wpAny_loadName_local hk ?_ hns (by rfl) q)
    show scope.names.lookup _ = _
    rw [hn]; rfl
  have kC : ∀ (tk : Nat) (E : Value → Shared → Prop) (Q : Value → Shared → Prop) (px : Pos), Q (.int c tc) { s with heap := h₁, toks := tk } → wpAny (model prog w) (A.deeper (envX lamQ scope s.heap.objs.size f (.ref c') cl)) (eval (.Name "called" px) (envX lamQ scope s.heap.objs.size f (.ref c') cl)) Q E { s with heap := h₁, toks := tk } := fun tk E Q px q => by
    refine wpAny_Name (wpAny_loadName_free (c := cc) hk ?_ hcl (let ⟨o, h1, h2⟩ := hcell; ⟨o, kp _ _ h1, h2⟩) q)
    show scope.names.lookup _ = _
    rw [hn]; rfl
  refine kla_codeExpr (wpAny_Tuple_spliced ?_)
  refine Calls.spliced_cons ?_
  refine wpAny_Call_Name_kw (Calls.Name_function_global hk ?_ (Calls.loadGlobal_builtin (hg.keeps kp) hm (hb.keeps kp) ((hbb "abs" (by decide)).trans boot_abs) ?_))
  · show scope.names.lookup _ = _
    rw [hn]; rfl
  refine PyProof.Rows.callWith_builtin1 (Calls.spliced_cons (wpAny_BinOp (kP _ _ _ _ (kC _ _ _ _ (sub_int (Calls.spliced_nil ?_)))))) (by rfl) (by rfl)
  refine call_abs_int fun u tk => ?_
  refine Calls.spliced_cons (wpAny_BinOp (wpAny_Constant_int (kP _ _ _ _ (sub_int (Calls.spliced_nil ⟨(by show 2 ≤ sizeLine; rw [sizeLine_eq]; omega), ?_⟩)))))
  refine ⟨_, _, rfl, fun b o e => Heap.get?_push_of_some _ (kp b o e), ?_⟩
  exact Reads.tuple (as := []) (Heap.get?_push_size _ rfl) rfl rfl (ReadsAll.cons (as := []) (bs := []) (Reads.int _ _) (ReadsAll.cons (as := []) (bs := []) (Reads.int _ _) ReadsAll.nil))
end
def tPM (K : Fg) (i : Nat) (te : TE) : TE := fun σ H Q => te σ H fun v H1 => ∃ (a : Addr) (ns : List Int) (c : Int) (F : Hp), v = .ref a ∧ SqL K H1 a (ns.map V.int) ∧ σ[i]? = some (some (.int c)) ∧ Same F H1 ∧ TbOk K F H1 ∧
  ∀ F2 H2 p, Grow2 K F H1 F2 H2 → H2 p = none → Q (.ref p) (upd H2 p (.lst ((pmSort c ns).map V.int)))
theorem grow2_seq {K : Fg} {F H F' H' : Hp} {a : Addr} {xs : List V} (g : Grow2 K F H F' H') (h : SqL K H a xs) : SqL K H' a xs := by
  rcases h with (h | ⟨o, h⟩) | h
  · exact .inl (.inl (g.h _ _ h fun _ z => nomatch z))
  · exact .inl (.inr ⟨o, g.h _ _ h fun _ z => nomatch z⟩)
  · exact .inr h
theorem each_intsPM : ∀ {ns : List Int} {us : List Value}, Vals (ns.map V.int) us → EachIs (fun (v : Value) (n : Int) => ∃ t, v = .int n t) us ns
  | [], us, r => by cases r; exact .nil
  | n :: ns, us, r => by
    cases r with
    | cons r t => exact .cons r (each_intsPM t)
theorem ints_eachPM : ∀ {ns : List Int} {us : List Value}, EachIs (fun (v : Value) (n : Int) => ∃ t, v = .int n t) us ns → Vals (ns.map V.int) us
  | _, _, .nil => .nil
  | _, _, .cons r t => .cons r (ints_eachPM t)
section
variable {X : Cx} {te : TE} {e : Expr} {i k : Nat} {c P : Addr} {params : Arguments} {scope : Scope} {p pos lpos kpos p1 p2 p3 p4 p5 p6 p7 p8 p10 : Pos} {k6 k9 : Nat}
theorem pe_sortPM (hr : Room (k + 1) X.A) (hu : X.A.units + 65 < cLine) (he : PE X e te) (TB : LamX.TabB X.base X.mg c P) (hcode : X.env.code = .ref c) (hp : tabIn X.K "price_meant" = some (c, P)) (hg : Gl X "sorted") (hm : X.mg "sorted" = none) (hma : X.mg "abs" = none)
    (hq : X.env.qual ++ "<lambda>" = lamQ := by rfl) (hN : X.N[i]? = some ("called" : Str) := by rfl) (hcell : X.env.scope.names.lookup ("called" : Str) = some .cell := by rfl) (hdef : defaultsOf params X.env = ([], []) := by rfl)
    (hk : scope.kind = .function := by rfl) (hco : scope.isCoroutine = false := by rfl) (hgen : scope.isGenerator = false := by rfl) (hn : scope.names = [(("price" : Str), NameKind.local), (("called" : Str), NameKind.free), (("abs" : Str), NameKind.globalImplicit)] := by rfl)
    (hbind : ∀ (cl : List (Str × Addr)) (pm cv ctv : Value) (v : Value), bindArgs (kla_fn "<lambda>" lamQ params (lamB p1 p2 p3 p4 p5 p6 p7 p8 p10 k6 k9) scope cl pm cv ctv) ⟨[v], []⟩ = pure [(("price" : Str), v)] := by intros; rfl)
    (hsa : backTo pos (starEach [e] X.env) = (false, eval e X.env) :: backTo pos (starEach [] X.env) := by rfl) (hst : starEach [e] X.env = (false, eval e X.env) :: starEach [] X.env := by rfl) :
    PE X (.Call (.Name "sorted" p) [e] [⟨some "key", .Lambda params (lamB p1 p2 p3 p4 p5 p6 p7 p8 p10 k6 k9) scope lpos, kpos⟩] pos) (tPM X.K i te) := by
  refine ⟨fun pins s σ H Q I h => ?_⟩
  refine wpAny_Call_Name_kw (ld_blt I hg hm boot_sorted ?_)
  refine PyProof.Rows.callWith_kw (thn ((pa_cons he pa_nil hst).run pos pins s σ H (fun vs H1 => match vs with
    | [v] => ∃ (a : Addr) (ns : List Int) (c : Int) (F : Hp), v = .ref a ∧ SqL X.K H1 a (ns.map V.int) ∧ σ[i]? = some (some (.int c)) ∧ Same F H1 ∧ TbOk X.K F H1 ∧
      ∀ F2 H2 p, Grow2 X.K F H1 F2 H2 → H2 p = none → Q (.ref p) (upd H2 p (.lst ((pmSort c ns).map V.int)))
    | _ => False) I h) fun us s1 ⟨vs, H1, I1, r1, q1⟩ => ?_) hsa (by rw [hsa]; rfl) rfl rfl
  match vs, q1 with
  | [v], q1 =>
    obtain ⟨a, ns, n0, F, rfl, hs, hσ, sF, hT, q⟩ := q1
    rw [Vals.ref1 r1]
    show wpAny _ _ (evalAll ((do let v ← eval (.Lambda params (lamB p1 p2 p3 p4 p5 p6 p7 p8 p10 k6 k9) scope lpos) X.env; standAt pos; pure v) :: [])) _ _ s1
    have hfree : ∀ y ∈ scope.names, y.2 = .free → ∃ c, X.env.cells.lookup y.1 = some c := fun y hy e => by
      rw [hn] at hy
      simp only [List.mem_cons, List.not_mem_nil, or_false] at hy
      rcases hy with rfl | rfl | rfl
      · cases e
      · exact I1.ok.has _ (.inl hcell)
      · cases e
    refine wpAny_evalAll_cons (wpAny_bind (lam_makeT I1 TB hcode hp hq sF hT hdef hfree fun f c' pm ctv F2 H2 s2 I2 g2 hf hcr => wpAny_bind (wpAny_standAt (wpAny_pure (wpAny_evalAll_nil ?_)))))
    show wpAny _ _ (call (.builtin "sorted") [.ref a] [(Str.ofString "key", .ref f)]) _ _ s2
    obtain ⟨its, rv, hl, hz⟩ := I2.list (grow2_seq g2 hs)
    -- the captured cell
    obtain ⟨cc, hcc⟩ := I2.ok.has _ (.inl hcell)
    have hclo : (cloFrom X.env.cells scope.names []).lookup ("called" : Str) = some cc := by
      rw [hn]
      show ((("called" : Str), (X.env.cells.lookup ("called" : Str)).getD 0) :: []).lookup ("called" : Str) = some cc
      rw [hcc]
      rfl
    obtain ⟨m, hnm, hl2⟩ := I2.loc
    obtain ⟨w', rw', qw⟩ := hl2 i _ _ hN hσ (.inr (.inl hcell))
    have hcl : s2.heap.IsCell cc (some w') := by
      rcases qw with ⟨k', _⟩ | ⟨_, c3, e', z⟩
      · have k' : X.env.scope.names.lookup ("called" : Str) = some .local := k'
        rw [hcell] at k'
        cases k'
      · rw [hcc] at e'
        cases e'
        exact z
    obtain ⟨tc, rfl⟩ := rw'
    obtain ⟨mb, hb1, hb2⟩ := I2.mod.blt
    have hz' : ns.length ≤ sizeLine := by simpa using hz
    refine sorted_key_data (vs := its) (bs := ns) (R := fun (v : Value) (n : Int) => ∃ t, v = .int n t) (b := false) (f := .ref f) (kPM n0) hl.isList (each_intsPM rv) ?_ (.inl fun d hd => ?_) hz' (fun x _ => by have := kPM_depth n0 x; omega) (PyProof.Rows.ksk_s1 _ _) (fun x => PyProof.Rows.ksk_l1 _ _) (fun x => PyProof.Rows.ksk_t1 f x)
      (fun v x hx _ h tk kp => ?_) fun out c3 h' tk kp hnew hat hlen he => ?_
    · intro d hd d' hd'
      obtain ⟨x, _, rfl⟩ := List.mem_map.mp hd
      obtain ⟨y, _, rfl⟩ := List.mem_map.mp hd'
      rfl
    · obtain ⟨x, _, rfl⟩ := List.mem_map.mp hd
      exact ⟨_, _, rfl⟩
    · obtain ⟨t, rfl⟩ := hx
      refine lam_call (K := X.K) (tc := tc) (mg := X.mg) (mb := mb) (s := { s2 with heap := h, toks := tk }) hr.depth (kp _ _ hf) ?_ ((I2.mod.glob.keeps I2.bk).keeps kp) hma ((hb1.keeps I2.bk).keeps kp) hb2 (I2.nolimit.keeps kp) hclo ?_ hk hco hgen hn (hbind _ _ _ _ _)
      · obtain ⟨c2, oc, vs, t, e2, hoc, hd, hv⟩ := hcr
        exact ⟨c2, oc, vs, t, e2, kp _ _ hoc, hd, hv⟩
      · obtain ⟨o, h1, h2⟩ := hcl
        exact ⟨o, kp _ _ h1, h2⟩
    · have vs := ints_eachPM he
      refine ⟨.ref (s2.heap.objs.size + 1), _, I2.laid (t' := tk) (o := .lst ((pmSort n0 ns).map V.int)) kp (Nat.le_succ _) ⟨?_, out, c3, vs, hat⟩, rfl, q F2 H2 _ g2 (I2.hok.fresh (Nat.le_succ _))⟩
      rw [List.length_map]
      show (ns.mergeSort _).length ≤ _
      rw [List.length_mergeSort]
      exact hz'
/-- sorted(near, key=lambda price: (abs(price - called), 0 - price)), near an owned list or data; called in slot i -/
def intsPM : List PyData → Option (List Int)
  | [] => some []
  | .int n :: ds => (intsPM ds).map (n :: ·)
  | _ => none
theorem intsPM_ok {K : Fg} {F : Hp} : ∀ {ds : List PyData} {ns : List Int} {vs : List V}, intsPM ds = some ns → DqAll K F vs ds → vs = ns.map V.int
  | [], ns, vs, e, h => by
    simp only [intsPM] at e; cases e; cases h; rfl
  | .int n :: ds, ns, vs, e, h => by
    simp only [intsPM] at e
    obtain ⟨ms, h1, rfl⟩ := map_some e
    cases h with
    | cons a b =>
      cases a
      rw [intsPM_ok h1 b]
      rfl
  | .none :: _, _, _, e, _ => by simp [intsPM] at e
  | .bool _ :: _, _, _, e, _ => by simp [intsPM] at e
  | .str _ :: _, _, _, e, _ => by simp [intsPM] at e
  | .list _ :: _, _, _, e, _ => by simp [intsPM] at e
  | .tuple _ :: _, _, _, e, _ => by simp [intsPM] at e
  | .dict _ :: _, _, _, e, _ => by simp [intsPM] at e
def sortPM1 (i : Nat) (x : Rv) : M Rv := fun ρ => match derS ρ x, ρ[i]? with
  | some (.list ds), some (.val (.int c)) => (match intsPM ds with
    | some ns => some (.ok (.d (.list ((pmSort c ns).map .int))) ρ)
    | none => none)
  | _, _ => none
def cSortPM (i : Nat) (f : M Rv) : M Rv := bnd f (sortPM1 i)
theorem dq_intsPM {K : Fg} {F : Hp} : ∀ ns : List Int, DqAll K F (ns.map V.int) (ns.map PyData.int)
  | [] => .nil
  | n :: ns => .cons (.int n) (dq_intsPM ns)
theorem ve_sortPM {T : List Nat} {W : WV} {fa : M Rv} (hr : Room (k + 1) X.A) (hu : X.A.units + 65 < cLine) (he : VE X T W e fa) (TB : LamX.TabB X.base X.mg c P) (hcode : X.env.code = .ref c) (hp : tabIn X.K "price_meant" = some (c, P)) (hg : Gl X "sorted") (hm : X.mg "sorted" = none) (hma : X.mg "abs" = none)
    (hq : X.env.qual ++ "<lambda>" = lamQ := by rfl) (hN : X.N[i]? = some ("called" : Str) := by rfl) (hcell : X.env.scope.names.lookup ("called" : Str) = some .cell := by rfl) (hdef : defaultsOf params X.env = ([], []) := by rfl)
    (hk : scope.kind = .function := by rfl) (hco : scope.isCoroutine = false := by rfl) (hgen : scope.isGenerator = false := by rfl) (hn : scope.names = [(("price" : Str), NameKind.local), (("called" : Str), NameKind.free), (("abs" : Str), NameKind.globalImplicit)] := by rfl)
    (hbind : ∀ (cl : List (Str × Addr)) (pm cv ctv : Value) (v : Value), bindArgs (kla_fn "<lambda>" lamQ params (lamB p1 p2 p3 p4 p5 p6 p7 p8 p10 k6 k9) scope cl pm cv ctv) ⟨[v], []⟩ = pure [(("price" : Str), v)] := by intros; rfl)
    (hsa : backTo pos (starEach [e] X.env) = (false, eval e X.env) :: backTo pos (starEach [] X.env) := by rfl) (hst : starEach [e] X.env = (false, eval e X.env) :: starEach [] X.env := by rfl) :
    VE X T W (.Call (.Name "sorted" p) [e] [⟨some "key", .Lambda params (lamB p1 p2 p3 p4 p5 p6 p7 p8 p10 k6 k9) scope lpos, kpos⟩] pos) (cSortPM i fa) :=
  pe_imp (pe_sortPM (i := i) hr hu he TB hcode hp hg hm hma hq hN hcell hdef hk hco hgen hn hbind hsa hst) fun σ H Q ⟨F, ρ, fp, o, E, q, P⟩ => by
    refine tv_bnd E q P (fun i hi => hi) fun x ρ1 v H1 F1 fp1 s1 r1 e1 P1 => ?_
    unfold sortPM1 at e1
    split at e1
    · rename_i ds c0 hd hi
      split at e1
      · rename_i ns hns
        cases ok_inj e1
        obtain ⟨a, vs, rfl, hrd, hda⟩ := (derS_ok s1.env r1 hd).list s1.env.sub
        have hvs := intsPM_ok hns hda
        subst hvs
        obtain ⟨u, hu, hq2⟩ := s1.env.sl i _ hi
        cases hq2
        refine ⟨a, ns, c0, F1, rfl, .inl hrd, sg_some.mp hu, s1.env.sub, s1.env.tb, fun F2 H2 p g np => ?_⟩
        have st2 := g.step (T := T) s1.env
        have st3 := (Grow.new (.lst ((pmSort c0 ns).map V.int)) st2.env.sub np).step (T := T) st2.env
        exact P1 _ _ _ fp1 (st2.trans st3) (.lst (.inl upd_same) (dq_intsPM _))
      · cases e1
    · cases e1
end
end VL

end

section
set_option Elab.async false
set_option linter.all false
set_option maxRecDepth 100000
namespace SM
open PySem PySem.Spec PyProof.Rows L2 VL
def fuel : Nat := 1000000
def s_i : Str := ⟨#[105]⟩
theorem e_i : ("i" : Str) = s_i := by decide +kernel
def s_count : Str := ⟨#[99, 111, 117, 110, 116]⟩
theorem e_count : ("count" : Str) = s_count := by decide +kernel
def s_side : Str := ⟨#[115, 105, 100, 101]⟩
theorem e_side : ("side" : Str) = s_side := by decide +kernel
def s_price : Str := ⟨#[112, 114, 105, 99, 101]⟩
theorem e_price : ("price" : Str) = s_price := by decide +kernel
def s_has : Str := ⟨#[104, 97, 115]⟩
theorem e_has : ("has" : Str) = s_has := by decide +kernel
def s_owes : Str := ⟨#[111, 119, 101, 115]⟩
theorem e_owes : ("owes" : Str) = s_owes := by decide +kernel
def s_nothing : Str := ⟨#[110, 111, 116, 104, 105, 110, 103]⟩
theorem e_nothing : ("nothing" : Str) = s_nothing := by decide +kernel
def s_had : Str := ⟨#[104, 97, 100]⟩
theorem e_had : ("had" : Str) = s_had := by decide +kernel
def s_owed : Str := ⟨#[111, 119, 101, 100]⟩
theorem e_owed : ("owed" : Str) = s_owed := by decide +kernel
def s_left : Str := ⟨#[108, 101, 102, 116]⟩
theorem e_left : ("left" : Str) = s_left := by decide +kernel
def s_done : Str := ⟨#[100, 111, 110, 101]⟩
theorem e_done : ("done" : Str) = s_done := by decide +kernel
def s_void : Str := ⟨#[118, 111, 105, 100]⟩
theorem e_void : ("void" : Str) = s_void := by decide +kernel
def s_quarrel : Str := ⟨#[113, 117, 97, 114, 114, 101, 108]⟩
theorem e_quarrel : ("quarrel" : Str) = s_quarrel := by decide +kernel
def s_half : Str := ⟨#[104, 97, 108, 102]⟩
theorem e_half : ("half" : Str) = s_half := by decide +kernel
def s_open : Str := ⟨#[111, 112, 101, 110]⟩
theorem e_open : ("open" : Str) = s_open := by decide +kernel
def s_end : Str := ⟨#[101, 110, 100]⟩
theorem e_end : ("end" : Str) = s_end := by decide +kernel
def s_offers : Str := ⟨#[111, 102, 102, 101, 114, 115]⟩
theorem e_offers : ("offers" : Str) = s_offers := by decide +kernel
def s_prints : Str := ⟨#[112, 114, 105, 110, 116, 115]⟩
theorem e_prints : ("prints" : Str) = s_prints := by decide +kernel
def s_deals : Str := ⟨#[100, 101, 97, 108, 115]⟩
theorem e_deals : ("deals" : Str) = s_deals := by decide +kernel
def s_cards : Str := ⟨#[99, 97, 114, 100, 115]⟩
theorem e_cards : ("cards" : Str) = s_cards := by decide +kernel
def s_made : Str := ⟨#[109, 97, 100, 101]⟩
theorem e_made : ("made" : Str) = s_made := by decide +kernel
def s_pass : Str := ⟨#[112, 97, 115, 115]⟩
theorem e_pass : ("pass" : Str) = s_pass := by decide +kernel
def s_settle : Str := ⟨#[115, 101, 116, 116, 108, 101]⟩
theorem e_settle : ("settle" : Str) = s_settle := by decide +kernel
def s_consent : Str := ⟨#[99, 111, 110, 115, 101, 110, 116]⟩
theorem e_consent : ("consent" : Str) = s_consent := by decide +kernel
def s_lower : Str := ⟨#[108, 111, 119, 101, 114]⟩
theorem e_lower : ("lower" : Str) = s_lower := by decide +kernel
def s_take : Str := ⟨#[116, 97, 107, 101]⟩
theorem e_take : ("take" : Str) = s_take := by decide +kernel
def s_hold : Str := ⟨#[104, 111, 108, 100]⟩
theorem e_hold : ("hold" : Str) = s_hold := by decide +kernel
def s_many : Str := ⟨#[109, 97, 110, 121]⟩
theorem e_many : ("many" : Str) = s_many := by decide +kernel
def s_close : Str := ⟨#[99, 108, 111, 115, 101]⟩
theorem e_close : ("close" : Str) = s_close := by decide +kernel
def s_consents : Str := ⟨#[99, 111, 110, 115, 101, 110, 116, 115]⟩
theorem e_consents : ("consents" : Str) = s_consents := by decide +kernel
def s_first : Str := ⟨#[102, 105, 114, 115, 116]⟩
theorem e_first : ("first" : Str) = s_first := by decide +kernel
def s_nose : Str := ⟨#[110, 111, 115, 101]⟩
theorem e_nose : ("nose" : Str) = s_nose := by decide +kernel
def s_next : Str := ⟨#[110, 101, 120, 116]⟩
theorem e_next : ("next" : Str) = s_next := by decide +kernel
def s_back : Str := ⟨#[98, 97, 99, 107]⟩
theorem e_back : ("back" : Str) = s_back := by decide +kernel
def s_lowered : Str := ⟨#[108, 111, 119, 101, 114, 101, 100]⟩
theorem e_lowered : ("lowered" : Str) = s_lowered := by decide +kernel
def s_x20 : Str := ⟨#[32]⟩
theorem e_x20 : (" " : Str) = s_x20 := by decide +kernel
def s_0 : Str := ⟨#[48]⟩
theorem e_0 : ("0" : Str) = s_0 := by decide +kernel
def s_0123456789 : Str := ⟨#[48, 49, 50, 51, 52, 53, 54, 55, 56, 57]⟩
theorem e_0123456789 : ("0123456789" : Str) = s_0123456789 := by decide +kernel
def s_b : Str := ⟨#[98]⟩
theorem e_b : ("b" : Str) = s_b := by decide +kernel
def s_s : Str := ⟨#[115]⟩
theorem e_s : ("s" : Str) = s_s := by decide +kernel
def tb_OTHERS : List (Str × PyData) := [(sIn, (.str sOut)), (sOut, (.str sIn)), (sChin, (.str sBrow)), (sBrow, (.str sChin))]
def g_is_whole : MS := (sRet (nDat (cAndV (cIsi .int (cVar 0)) (cNotV (cIsi .bool (cVar 0))))))
def F_is_whole : Fn := runF 1 g_is_whole
def g__law_whole : MS := (sRet (nDat (cAndV (cIsi .int (cVar 0)) (cNotV (cIsi .bool (cVar 0))))))
def F__law_whole : Fn := runF 1 g__law_whole
def g__law_truths : MS := (sRet (nDat (cCall tupleD (aCons (cFrz (nComp (iSeq (cVar 0)) [1] (gN 1) tYesM (cIf (cCmp inD (cVar 1) (cTup (aCons (cD (.int 0)) (aCons (cD (.int 1)) aNil)))) (cOf (cCmp eqD (cVar 1) (cD (.int 1)))) (cVar 1)))) aNil))))
def F__law_truths : Fn := runF 2 g__law_truths
def g_is_within : MS := (sRet (nDat (cAndV (cFrz (nCall [0] 1 F_is_whole (aCons (cVar 0) aNil))) (cOf (cChain leD leD (cVar 1) (cVar 0) (cVar 2))))))
def F_is_within : Fn := runF 3 g_is_within
def g__law_odd : MS := (sSeq (sSet 1 (cFrz (nLst (aCons (cNeg (cD (.int 1))) (aCons (cD (.int 0)) (aCons (cD (.int 1)) (aCons (cD (.int 5)) (aCons (cD (.int 9)) (aCons (cD (.int 10)) (aCons (cD (.bool true)) (aCons (cD (.bool false)) (aCons (cD .none) (aCons (cD (.str s_x)) (aCons (cD (.str sIn)) (aCons (cD (.str sOut)) (aCons (cD (.str sChin)) (aCons (cD (.str sBrow)) (aCons (cD (.str s_i)) (aCons (cTup aNil) (aCons (cTup (aCons (cD (.int 1)) (aCons (cD (.str sChin)) aNil))) aNil))))))))))))))))))))
  (sRet (nDat (cBin subD (cBin addD (cVar 1) (cFrz (nLst (aCons (cFrz (nLst (aCons (cD (.str sIn)) aNil))) (aCons (cFrz (nLst (aCons (cD (.int 1)) (aCons (cD (.str sChin)) aNil)))) aNil))))) (cFrz (nCall [0] 2 fTake (aCons (cVar 0) (aCons (cD (.int 19)) aNil))))))))
def F__law_odd : Fn := runF 2 g__law_odd
def g_is_showing : MS := (sSeq (sIf (cOr (cNot (cTest (cIsi .tuple (cVar 0)))) (cOr (cCmp neD (cCall lenD (aCons (cVar 0) aNil)) (cD (.int 2))) (cNot (cTest (cFrz (nCall [] 3 F_is_within (aCons (cBin subD (cVar 0) (cD (.int 0))) (aCons (cD (.int 1)) (aCons (cD (.int 9)) aNil))))))))) (sRet (nDat (cD (.bool false)))) sNil)
  (sRet (nDat (cAndV (cIsi .str (cBin subD (cVar 0) (cD (.int 1)))) (cOf (cCmp inD (cBin subD (cVar 0) (cD (.int 1))) (cD (.tuple [(.str sChin), (.str sBrow)]))))))))
def F_is_showing : Fn := runF 1 g_is_showing
def g__law_replaced : MS := (sSeq (sSet 2 (cFrz (nCall [0] 2 fTake (aCons (cVar 0) (aCons (cCall lenD (aCons (cVar 1) aNil)) aNil)))))
  (sSeq (sSet 3 (cFrz (nCall [0] 2 fTake (aCons (cVar 0) (aCons (cD (.int 9)) aNil)))))
  (sSeq (sIf (cCmp eqD (cVar 3) (cD (.int 0))) (sRet (nDat (cBin addD (cCut (cVar 1) oNone (oSome (cVar 2))) (cCut (cVar 1) (oSome (cBin addD (cVar 2) (cD (.int 1)))) oNone)))) sNil)
  (sSeq (sIf (cCmp eqD (cVar 3) (cD (.int 1))) (sRet (nDat (cBin addD (cBin addD (cCut (cVar 1) oNone (oSome (cVar 2))) (cTup (aCons (cBin subD (cVar 1) (cVar 2)) aNil))) (cCut (cVar 1) (oSome (cVar 2)) oNone)))) sNil)
  (sSeq (sIf (cCmp eqD (cVar 3) (cD (.int 2))) (sRet (nDat (cCall listD (aCons (cVar 1) aNil)))) sNil)
  (sSeq (sIf (cCmp eqD (cVar 3) (cD (.int 3))) (sRet (nDat (cBin addD (cBin addD (cCut (cVar 1) oNone (oSome (cVar 2))) (cRev (cCut (cVar 1) (oSome (cVar 2)) (oSome (cBin addD (cVar 2) (cD (.int 2))))))) (cCut (cVar 1) (oSome (cBin addD (cVar 2) (cD (.int 2)))) oNone)))) sNil)
  (sRet (nDat (cBin addD (cBin addD (cCut (cVar 1) oNone (oSome (cVar 2))) (cTup (aCons (cFrz (nCall [0] 1 F__law_odd (aCons (cVar 0) aNil))) aNil))) (cCut (cVar 1) (oSome (cBin addD (cVar 2) (cD (.int 1)))) oNone))))))))))
def F__law_replaced : Fn := runF 4 g__law_replaced
def g_is_sign : MS := (sSeq (sIf (cOr (cNot (cTest (cIsi .tuple (cVar 0)))) (cOr (cCmp neD (cCall lenD (aCons (cVar 0) aNil)) (cD (.int 4))) (cNot (cTest (cFrz (nCall [] 1 F_is_showing (aCons (cCut (cVar 0) (oSome (cD (.int 2))) oNone) aNil))))))) (sRet (nDat (cD (.bool false)))) sNil)
  (sRet (nDat (cAndV (cIsi .str (cBin subD (cVar 0) (cD (.int 0)))) (cAndV (cOf (cCmp inD (cBin subD (cVar 0) (cD (.int 0))) (cD (.tuple [(.str sIn), (.str sOut)])))) (cFrz (nCall [] 3 F_is_within (aCons (cBin subD (cVar 0) (cD (.int 1))) (aCons (cD (.int 0)) (aCons (cD (.int 9)) aNil))))))))))
def F_is_sign : Fn := runF 1 g_is_sign
def g_lots_of : MS := (sSeq (sAsg (gT 2 (gsC (gN 1) (gsC (gN 2) gsN))) (cCut (cVar 0) (oSome (cNeg (cD (.int 2)))) oNone))
  (sSeq (sIf (cCmp eqD (cVar 2) (cD (.str sBrow))) (sRet (nDat (cBin mulD (cD (.int 10)) (cVar 1)))) sNil)
  (sRetV 1)))
def F_lots_of : Fn := runF 3 g_lots_of
def g_other_part : MS := (sSeq (sIf (cTest (cIsi .str (cVar 0))) (sRet (nDat (cTab tb_OTHERS (cVar 0)))) sNil)
  (sSeq (sIf (cCmp eqD (cBin modD (cVar 0) (cD (.int 5))) (cD (.int 0))) (sRet (nDat (cD .none))) sNil)
  (sRet (nDat (cBin modD (cBin addD (cVar 0) (cD (.int 5))) (cD (.int 10)))))))
def F_other_part : Fn := runF 1 g_other_part
def b__law_all_0 : MS := (sExt [] (pVar 0) (cFrz (nComp (iSeq (cFrz (nLst (aCons (cD (.str sChin)) (aCons (cD (.str sBrow)) aNil))))) [4] (gN 4) tYesM (cTup (aCons (cVar 1) (aCons (cVar 2) (aCons (cVar 3) (aCons (cVar 4) aNil))))))))
def b__law_all_1 : MS := (sFor (iRange2 (aCons (cD (.int 1)) (aCons (cD (.int 10)) aNil))) (gN 3) b__law_all_0)
def b__law_all_2 : MS := (sFor (iRange1 (aCons (cD (.int 10)) aNil)) (gN 2) b__law_all_1)
def g__law_all : MS := (sSeq (sSetN 0 (nLst aNil))
  (sSeq (sFor (iSeq (cFrz (nLst (aCons (cD (.str sIn)) (aCons (cD (.str sOut)) aNil))))) (gN 1) b__law_all_2)
  (sRetV 0)))
def F__law_all : Fn := runF 5 g__law_all
def g__law_lots : MS := (sRet (nDat (cBin mulD (cBin subD (cVar 0) (cNeg (cD (.int 2)))) (cBin subD (cFrz (nLst (aCons (cD (.int 1)) (aCons (cD (.int 10)) aNil)))) (cCall intD (aCons (cOf (cCmp eqD (cBin subD (cVar 0) (cNeg (cD (.int 1)))) (cD (.str sBrow)))) aNil))))))
def F__law_lots : Fn := runF 1 g__law_lots
def b__law_likes_0 : MS := (sIf (cCmp inD (cBin subD (cVar 0) (cVar 3)) (cTup (aCons (cVar 4) (aCons (cVar 5) aNil)))) (sApp [] (pVar 2) (nDat (cBin addD (cBin addD (cCut (cVar 0) oNone (oSome (cVar 3))) (cTup (aCons (cBin subD (cFrz (nLst (aCons (cVar 4) (aCons (cVar 5) aNil)))) (cCall intD (aCons (cOf (cCmp eqD (cBin subD (cVar 0) (cVar 3)) (cVar 4))) aNil))) aNil))) (cCut (cVar 0) (oSome (cBin addD (cVar 3) (cD (.int 1)))) oNone)))) sNil)
def b__law_likes_1 : MS := (sFor (iSeq (cVar 1)) (gT 2 (gsC (gN 4) (gsC (gN 5) gsN))) b__law_likes_0)
def g__law_likes : MS := (sSeq (sSet 1 (cFrz (nLst (aCons (cTup (aCons (cD (.str sIn)) (aCons (cD (.str sOut)) aNil))) (aCons (cTup (aCons (cD (.str sChin)) (aCons (cD (.str sBrow)) aNil))) (aCons (cTup (aCons (cD (.int 1)) (aCons (cD (.int 6)) aNil))) (aCons (cTup (aCons (cD (.int 2)) (aCons (cD (.int 7)) aNil))) (aCons (cTup (aCons (cD (.int 3)) (aCons (cD (.int 8)) aNil))) (aCons (cTup (aCons (cD (.int 4)) (aCons (cD (.int 9)) aNil))) aNil)))))))))
  (sSeq (sSetN 2 (nLst aNil))
  (sSeq (sFor (iRange1 (aCons (cCall lenD (aCons (cVar 0) aNil)) aNil)) (gN 3) b__law_likes_1)
  (sRetV 2))))
def F__law_likes : Fn := runF 6 g__law_likes
def b_alikes_0 : MS := (sSeq (sSet 4 (cFrz (nCall [3] 1 F_other_part (aCons (cVar 3) aNil))))
  (sIf (cCmp notND (cVar 4) (cD .none)) (sApp [] (pVar 1) (nDat (cBin addD (cBin addD (cCut (cVar 0) oNone (oSome (cVar 2))) (cTup (aCons (cVar 4) aNil))) (cCut (cVar 0) (oSome (cBin addD (cVar 2) (cD (.int 1)))) oNone)))) sNil))
def g_alikes : MS := (sSeq (sSetN 1 (nLst aNil))
  (sSeq (sFor (iEnumD (aCons (cVar 0) aNil)) (gT 2 (gsC (gN 2) (gsC (gN 3) gsN))) b_alikes_0)
  (sRetV 1)))
def F_alikes : Fn := runF 5 g_alikes
def g_look_alike : MS := (sRet (nDat (cOf (cCmp inD (cVar 1) (cFrz (nCall [0] 1 F_alikes (aCons (cVar 0) aNil)))))))
def F_look_alike : Fn := runF 2 g_look_alike
def b_mistakes_0 : MS := (sIf (cCmp neD (cVar 3) (cVar 4)) (sSeq (sIf (cCmp neD (cFrz (nCall [3] 1 F_other_part (aCons (cVar 3) aNil))) (cVar 4)) (sRet (nDat (cD .none))) sNil)
  (sAug 2 (fun i j => i + j) (cD (.int 1)))) sNil)
def g_mistakes : MS := (sSeq (sSet 2 (cD (.int 0)))
  (sSeq (sFor (iZipD (aCons (cVar 0) (aCons (cVar 1) aNil))) (gT 2 (gsC (gN 3) (gsC (gN 4) gsN))) b_mistakes_0)
  (sRetV 2)))
def F_mistakes : Fn := runF 5 g_mistakes
def b__law_meant_0 : MS := (sSeq (sIf (cCmp eqD (cBin modD (cBin addD (cVar 0) (cVar 2)) (cD (.int 10))) (cVar 1)) (sRet (nDat (cBin addD (cVar 0) (cVar 2)))) sNil)
  (sIf (cAnd (cCmp geD (cVar 0) (cVar 2)) (cCmp eqD (cBin modD (cBin subtD (cVar 0) (cVar 2)) (cD (.int 10))) (cVar 1))) (sRet (nDat (cBin subtD (cVar 0) (cVar 2)))) sNil))
def g__law_meant : MS := (sSeq (sFor (iRange1 (aCons (cD (.int 11)) aNil)) (gN 2) b__law_meant_0)
  (sRet (nDat (cD .none))))
def F__law_meant : Fn := runF 3 g__law_meant
def g_price_meant : MS := (sSeq (sSet 2 (cBin addD (cBin subtD (cVar 0) (cBin modD (cVar 0) (cD (.int 10)))) (cVar 1)))
  (sSeq (sSet 3 (cFrz (nComp (iSeq (cTup (aCons (cBin subtD (cVar 2) (cD (.int 10))) (aCons (cVar 2) (aCons (cBin addD (cVar 2) (cD (.int 10))) aNil))))) [4] (gN 4) (cCmp geD (cVar 4) (cD (.int 0))) (cVar 4))))
  (sRet (nDat (cBin subD (cSortPM 0 (cVar 3)) (cD (.int 0)))))))
def F_price_meant : Fn := runF 5 g_price_meant
def g_is_odd : MS := (sSeq (sAsg (gT 4 (gsC (gN 1) (gsC (gN 2) (gsC (gN 3) (gsC (gN 4) gsN))))) (cVar 0))
  (sSeq (sSet 5 (cBin addD (cBin addD (cBin addD (cCall intD (aCons (cOf (cCmp eqD (cVar 1) (cD (.str sOut)))) aNil)) (cCall intD (aCons (cOf (cCmp gtD (cVar 2) (cD (.int 5)))) aNil))) (cCall intD (aCons (cOf (cCmp gtD (cVar 3) (cD (.int 5)))) aNil))) (cCall intD (aCons (cOf (cCmp eqD (cVar 4) (cD (.str sBrow)))) aNil))))
  (sRet (nDat (cOf (cCmp eqD (cBin modD (cVar 5) (cD (.int 2))) (cD (.int 1))))))))
def F_is_odd : Fn := runF 6 g_is_odd
def g__law_is_card : MS := (sSeq (sIf (cOr (cNot (cTest (cIsi .tuple (cVar 0)))) (cCmp neD (cCall lenD (aCons (cVar 0) aNil)) (cD (.int 6)))) (sRet (nDat (cD (.bool false)))) sNil)
  (sSeq (sIf (cOr (cCmp neD (cFrz (nComp (iSeq (cBin addD (cCut (cVar 0) oNone (oSome (cD (.int 2)))) (cCut (cVar 0) (oSome (cD (.int 3))) oNone))) [1] (gN 1) (cNot (cTest (cFrz (nCall [1] 1 F__law_whole (aCons (cVar 1) aNil))))) (cVar 1))) (cFrz (nLst aNil))) (cNot (cTest (cIsi .str (cBin subD (cVar 0) (cD (.int 2))))))) (sRet (nDat (cD (.bool false)))) sNil)
  (sSeq (sAsg (gT 6 (gsC (gN 2) (gsC (gN 3) (gsC (gN 4) (gsC (gN 5) (gsC (gN 6) (gsC (gN 7) gsN))))))) (cVar 0))
  (sSeq (sIf (cOr (cNot (cChain leD leD (cD (.int 0)) (cVar 2) (cD (.int 11)))) (cOr (cNot (cChain leD leD (cD (.int 0)) (cVar 3) (cD (.int 11)))) (cOr (cCmp eqD (cVar 2) (cVar 3)) (cCmp notInD (cVar 4) (cFrz (nLst (aCons (cD (.str sBought)) (aCons (cD (.str sSold)) aNil)))))))) (sRet (nDat (cD (.bool false)))) sNil)
  (sRet (nDat (cAndV (cOf (cChain leD leD (cD (.int 0)) (cVar 5) (cBin powD (cD (.int 10)) (cD (.int 9))))) (cAndV (cOf (cChain leD leD (cD (.int 1)) (cVar 6) (cBin powD (cD (.int 10)) (cD (.int 6))))) (cOf (cChain leD leD (cD (.int 0)) (cVar 7) (cBin powD (cD (.int 10)) (cD (.int 9)))))))))))))
def F__law_is_card : Fn := runF 8 g__law_is_card
def b_is_card_0 : MS := (sIf (cNot (cTest (cFrz (nCall [7] 3 F_is_within (aCons (cVar 7) (aCons (cD (.int 0)) (aCons (cBin subtD (cD (.int (12))) (cD (.int 1))) aNil))))))) (sRet (nDat (cD (.bool false)))) sNil)
def g_is_card : MS := (sSeq (sIf (cOr (cNot (cTest (cIsi .tuple (cVar 0)))) (cCmp neD (cCall lenD (aCons (cVar 0) aNil)) (cD (.int 6)))) (sRet (nDat (cD (.bool false)))) sNil)
  (sSeq (sAsg (gT 6 (gsC (gN 1) (gsC (gN 2) (gsC (gN 3) (gsC (gN 4) (gsC (gN 5) (gsC (gN 6) gsN))))))) (cVar 0))
  (sSeq (sFor (iSeq (cTup (aCons (cVar 1) (aCons (cVar 2) aNil)))) (gN 7) b_is_card_0)
  (sSeq (sIf (cOr (cCmp eqD (cVar 1) (cVar 2)) (cOr (cNot (cTest (cIsi .str (cVar 3)))) (cCmp notInD (cVar 3) (cD (.tuple [(.str sBought), (.str sSold)]))))) (sRet (nDat (cD (.bool false)))) sNil)
  (sSeq (sIf (cOr (cNot (cTest (cFrz (nCall [4] 3 F_is_within (aCons (cVar 4) (aCons (cD (.int 0)) (aCons (cD (.int (1000000000))) aNil))))))) (cNot (cTest (cFrz (nCall [5] 3 F_is_within (aCons (cVar 5) (aCons (cD (.int 1)) (aCons (cD (.int (1000000))) aNil)))))))) (sRet (nDat (cD (.bool false)))) sNil)
  (sRet (nCall [6] 3 F_is_within (aCons (cVar 6) (aCons (cD (.int 0)) (aCons (cBin powD (cD (.int 10)) (cD (.int 9))) aNil))))))))))
def F_is_card : Fn := runF 8 g_is_card
def g_belong : MS := (sRet (nDat (cAndV (cOf (cCmp eqD (cBin subD (cVar 0) (cD (.int 0))) (cBin subD (cVar 1) (cD (.int 1))))) (cAndV (cOf (cCmp eqD (cBin subD (cVar 0) (cD (.int 1))) (cBin subD (cVar 1) (cD (.int 0))))) (cOf (cCmp eqD (cBin subD (cVar 0) (cD (.int 5))) (cBin subD (cVar 1) (cD (.int 5)))))))))
def F_belong : Fn := runF 2 g_belong
def g__law_twin : MS := (sRet (nDat (cBin addD (cTup (aCons (cBin subD (cVar 0) (cD (.int 1))) (aCons (cBin subD (cVar 0) (cD (.int 0))) (aCons (cBin subD (cFrz (nLst (aCons (cD (.str sBought)) (aCons (cD (.str sSold)) aNil)))) (cCall intD (aCons (cOf (cCmp eqD (cBin subD (cVar 0) (cD (.int 2))) (cD (.str sBought)))) aNil))) aNil)))) (cCut (cVar 0) (oSome (cD (.int 3))) oNone))))
def F__law_twin : Fn := runF 1 g__law_twin
def g__law_quarrel : MS := (sSeq (sIf (cCmp neD (cTup (aCons (cBin subD (cVar 0) (cD (.int 0))) (aCons (cBin subD (cVar 0) (cD (.int 1))) (aCons (cBin subD (cVar 0) (cD (.int 5))) aNil)))) (cTup (aCons (cBin subD (cVar 1) (cD (.int 1))) (aCons (cBin subD (cVar 1) (cD (.int 0))) (aCons (cBin subD (cVar 1) (cD (.int 5))) aNil))))) (sRet (nDat (cD .none))) sNil)
  (sSeq (sSet 2 (cBin addD (cBin repD (cFrz (nLst (aCons (cD (.str s_side)) aNil))) (cCall intD (aCons (cOf (cCmp eqD (cBin subD (cVar 0) (cD (.int 2))) (cBin subD (cVar 1) (cD (.int 2))))) aNil))) (cBin repD (cFrz (nLst (aCons (cD (.str s_price)) aNil))) (cCall intD (aCons (cOf (cCmp neD (cBin subD (cVar 0) (cD (.int 3))) (cBin subD (cVar 1) (cD (.int 3))))) aNil)))))
  (sRet (nDat (cCall tupleD (aCons (cBin addD (cVar 2) (cBin repD (cFrz (nLst (aCons (cD (.str s_count)) aNil))) (cCall intD (aCons (cOf (cCmp neD (cBin subD (cVar 0) (cD (.int 4))) (cBin subD (cVar 1) (cD (.int 4))))) aNil)))) aNil))))))
def F__law_quarrel : Fn := runF 3 g__law_quarrel
def g_quarrel_of : MS := (sSeq (sIf (cNot (cTest (cFrz (nCall [0, 1] 2 F_belong (aCons (cVar 0) (aCons (cVar 1) aNil)))))) (sRaise s_Unlike) sNil)
  (sSeq (sSetN 2 (nLst aNil))
  (sSeq (sIf (cCmp eqD (cBin subD (cVar 0) (cD (.int 2))) (cBin subD (cVar 1) (cD (.int 2)))) (sApp [] (pVar 2) (nDat (cD (.str s_side)))) sNil)
  (sSeq (sIf (cCmp neD (cBin subD (cVar 0) (cD (.int 3))) (cBin subD (cVar 1) (cD (.int 3)))) (sApp [] (pVar 2) (nDat (cD (.str s_price)))) sNil)
  (sSeq (sIf (cCmp neD (cBin subD (cVar 0) (cD (.int 4))) (cBin subD (cVar 1) (cD (.int 4)))) (sApp [] (pVar 2) (nDat (cD (.str s_count)))) sNil)
  (sRet (nDat (cCall tupleD (aCons (cVar 2) aNil)))))))))
def F_quarrel_of : Fn := runF 3 g_quarrel_of
def b_put_together_0 : MS := (sExt [] (pVar 4) (cBin repD (cFrz (nLst (aCons (cVar 2) aNil))) (cDGet [] (pVar 1) (cVar 2))))
def b_put_together_1 : MS := (sIf (cCmp eqD (cBin subD (cVar 2) (cD (.int 2))) (cD (.str sSold))) (sSeq (sSet 5 (cBin addD (cTup (aCons (cBin subD (cVar 2) (cD (.int 1))) (aCons (cBin subD (cVar 2) (cD (.int 0))) (aCons (cD (.str sBought)) aNil)))) (cCut (cVar 2) (oSome (cD (.int 3))) oNone)))
  (sIf (cCmp gtD (cDGet2 [] (pVar 1) (cVar 5) (cD (.int 0))) (cD (.int 0))) (sSeq (sDAugT [] [] (fun i j => i - j) (pVar 1) (cVar 5) (cD (.int 1)))
  (sApp [] (pVar 3) (nDat (cTup (aCons (cVar 2) (aCons (cVar 5) aNil)))))) (sApp [] (pVar 4) (nDat (cVar 2))))) sNil)
def b_put_together_2 : MS := (sIf (cCmp eqD (cBin subD (cVar 2) (cD (.int 2))) (cD (.str sBought))) (sDPut [] (cBin addD (cDGet2 [] (pVar 1) (cVar 2) (cD (.int 0))) (cD (.int 1))) (pVar 1) (cVar 2)) sNil)
def g_put_together : MS := (sSeq (sSetN 1 (nNew (.dt [])))
  (sSeq (sFor (iSeq (cVar 0)) (gN 2) b_put_together_2)
  (sSeq (sSetN 3 (nLst aNil))
  (sSeq (sSetN 4 (nLst aNil))
  (sSeq (sFor (iSeq (cCall sortedD (aCons (cVar 0) aNil))) (gN 2) b_put_together_1)
  (sSeq (sForKT 1 (gN 2) b_put_together_0)
  (sRet (nTupT (tConsM (nMv 3) (tConsM (nSort (aCons (cVar 4) aNil)) tNilM))))))))))
def F_put_together : Fn := runF 6 g_put_together
def b__law_shuffled_0 : MS := (sIns [0] (pVar 2) (aCons (cFrz (nCall [0] 2 fTake (aCons (cVar 0) (aCons (cBin addD (cCall lenD (aCons (cVar 2) aNil)) (cD (.int 1))) aNil)))) (aCons (cVar 3) aNil)))
def g__law_shuffled : MS := (sSeq (sSetN 2 (nLst aNil))
  (sSeq (sFor (iSeq (cVar 1)) (gN 3) b__law_shuffled_0)
  (sRetV 2)))
def F__law_shuffled : Fn := runF 4 g__law_shuffled
def b_lates_0 : MS := (sSeq (sIf (cCmp ltD (cBin subD (cVar 4) (cD (.int 0))) (cVar 1)) (sApp [] (pVar 2) (nDat (cVar 3))) sNil)
  (sSet 1 (cCall max2D (aCons (cVar 1) (aCons (cBin subD (cVar 4) (cD (.int 0))) aNil)))))
def g_lates : MS := (sSeq (sSet 1 (cNeg (cD (.int 1))))
  (sSeq (sSetN 2 (nLst aNil))
  (sSeq (sFor (iEnumD (aCons (cVar 0) aNil)) (gT 2 (gsC (gN 3) (gsC (gN 4) gsN))) b_lates_0)
  (sRetV 2))))
def F_lates : Fn := runF 5 g_lates
def b_rows_of_0 : MS := (sSeq (sAsg (gT 3 (gsC (gN 5) (gsC (gN 6) (gsC (gN 7) gsN)))) (cDGet2 [] (pVar 1) (cVar 2) (cTup (aCons (cVar 3) (aCons (cVar 3) (aCons (cD (.int 0)) aNil))))))
  (sDPut [] (cTup (aCons (cCall min2D (aCons (cVar 5) (aCons (cVar 3) aNil))) (aCons (cCall max2D (aCons (cVar 6) (aCons (cVar 3) aNil))) (aCons (cBin addD (cVar 7) (cVar 4)) aNil)))) (pVar 1) (cVar 2)))
def g_rows_of : MS := (sSeq (sSetN 1 (nNew (.dk [])))
  (sSeq (sFor (iSeq (cVar 0)) (gT 3 (gsC (gN 2) (gsC (gN 3) (gsC (gN 4) gsN)))) b_rows_of_0)
  (sRet (nComp (iSeq (cSortDI (pVar 1))) [2] (gN 2) tYesM (cBin addD (cTup (aCons (cVar 2) aNil)) (cDGet [] (pVar 1) (cVar 2)))))))
def F_rows_of : Fn := runF 8 g_rows_of
def b_called_price_0 : MS := (sIf (cCmp eqD (cVar 5) (cVar 2)) (sDPut [] (cBin addD (cDGet2 [] (pVar 4) (cVar 6) (cD (.int 0))) (cVar 7)) (pVar 4) (cVar 6)) sNil)
def g_called_price : MS := (sSeq (sIf (cCmp eqD (cVar 0) (cFrz (nLst aNil))) (sRetV 1) sNil)
  (sSeq (sSet 2 (cCall maxD (aCons (cFrz (nComp (iSeq (cVar 0)) [3] (gN 3) tYesM (cBin subD (cVar 3) (cD (.int 0))))) aNil)))
  (sSeq (sSetN 4 (nNew (.dk [])))
  (sSeq (sFor (iSeq (cVar 0)) (gT 3 (gsC (gN 5) (gsC (gN 6) (gsC (gN 7) gsN)))) b_called_price_0)
  (sRet (nDat (cBin subD (cCall maxTD (aCons (cFrz (nLock 4 (nComp (iKeyF 4) [6] (gN 6) tYesM (cTup (aCons (cDGet [] (pVar 4) (cVar 6)) (aCons (cVar 6) aNil)))))) aNil)) (cD (.int 1)))))))))
def F_called_price : Fn := runF 8 g_called_price
def b__law_called_0 : MS := (sIf (cCmp eqD (cBin subD (cVar 3) (cD (.int 0))) (cVar 2)) (sSeq (sSet 5 (cCall sumD (aCons (cFrz (nComp (iSeq (cVar 0)) [6] (gN 6) (cAnd (cCmp eqD (cBin subD (cVar 6) (cD (.int 0))) (cVar 2)) (cCmp eqD (cBin subD (cVar 6) (cD (.int 1))) (cBin subD (cVar 3) (cD (.int 1))))) (cBin subD (cVar 6) (cD (.int 2))))) aNil)))
  (sSet 4 (cCall max2TD (aCons (cVar 4) (aCons (cTup (aCons (cVar 5) (aCons (cBin subD (cVar 3) (cD (.int 1))) aNil))) aNil))))) sNil)
def g__law_called : MS := (sSeq (sIf (cCmp eqD (cVar 0) (cFrz (nLst aNil))) (sRetV 1) sNil)
  (sSeq (sSet 2 (cCall maxD (aCons (cFrz (nComp (iSeq (cVar 0)) [3] (gN 3) tYesM (cBin subD (cVar 3) (cD (.int 0))))) aNil)))
  (sSeq (sSet 4 (cTup (aCons (cD (.int 0)) (aCons (cD (.int 0)) aNil))))
  (sSeq (sFor (iSeq (cVar 0)) (gN 3) b__law_called_0)
  (sRet (nDat (cBin subD (cVar 4) (cD (.int 1)))))))))
def F__law_called : Fn := runF 7 g__law_called
def b__law_board_0 : MS := (sSeq (sSet 5 (cFrz (nComp (iSeq (cVar 0)) [2] (gN 2) (cCmp eqD (cBin subD (cVar 2) (cD (.int 0))) (cVar 4)) (cBin subD (cVar 2) (cD (.int 1))))))
  (sApp [] (pVar 3) (nDat (cTup (aCons (cCall minD (aCons (cVar 5) aNil)) (aCons (cCall maxD (aCons (cVar 5) aNil)) aNil))))))
def g__law_board : MS := (sSeq (sIf (cCmp eqD (cVar 0) (cFrz (nLst aNil))) (sRet (nDat (cD .none))) sNil)
  (sSeq (sSet 1 (cFrz (nComp (iSeq (cVar 0)) [2] (gN 2) tYesM (cBin subD (cVar 2) (cD (.int 0))))))
  (sSeq (sSetN 3 (nLst aNil))
  (sSeq (sFor (iSeq (cTup (aCons (cCall minD (aCons (cVar 1) aNil)) (aCons (cCall maxD (aCons (cVar 1) aNil)) aNil)))) (gN 4) b__law_board_0)
  (sSeq (sSet 5 (cFrz (nComp (iSeq (cVar 0)) [2] (gN 2) tYesM (cBin subD (cVar 2) (cD (.int 1))))))
  (sRet (nDat (cTup (aCons (cBin subD (cVar 3) (cD (.int 0))) (aCons (cCall maxD (aCons (cVar 5) aNil)) (aCons (cCall minD (aCons (cVar 5) aNil)) (aCons (cBin subD (cVar 3) (cD (.int 1))) (aCons (cCall sumD (aCons (cFrz (nComp (iSeq (cVar 0)) [2] (gN 2) tYesM (cBin subD (cVar 2) (cD (.int 2))))) aNil)) aNil)))))))))))))
def F__law_board : Fn := runF 6 g__law_board
def b__law_lates_0 : MS := (sIf (cCmp neD (cFrz (nComp (iSeq (cCut (cVar 0) oNone (oSome (cVar 2)))) [3] (gN 3) (cCmp gtD (cBin subD (cVar 3) (cD (.int 0))) (cBin subD (cBin subD (cVar 0) (cVar 2)) (cD (.int 0)))) (cVar 3))) (cFrz (nLst aNil))) (sApp [] (pVar 1) (nDat (cVar 2))) sNil)
def g__law_lates : MS := (sSeq (sSetN 1 (nLst aNil))
  (sSeq (sFor (iRange1 (aCons (cCall lenD (aCons (cVar 0) aNil)) aNil)) (gN 2) b__law_lates_0)
  (sRetV 1)))
def F__law_lates : Fn := runF 4 g__law_lates
def g_board : MS := (sSeq (sSet 1 (cFrz (nCall [0] 1 F_rows_of (aCons (cVar 0) aNil))))
  (sSeq (sIf (cCmp eqD (cVar 1) (cFrz (nLst aNil))) (sRet (nDat (cD .none))) sNil)
  (sSeq (sSet 2 (cCall maxD (aCons (cFrz (nComp (iSeq (cVar 1)) [3] (gN 3) tYesM (cBin subD (cVar 3) (cD (.int 2))))) aNil)))
  (sSeq (sSet 4 (cCall minD (aCons (cFrz (nComp (iSeq (cVar 1)) [3] (gN 3) tYesM (cBin subD (cVar 3) (cD (.int 1))))) aNil)))
  (sRet (nDat (cTup (aCons (cCut (cBin subD (cVar 1) (cD (.int 0))) (oSome (cD (.int 1))) (oSome (cD (.int 3)))) (aCons (cVar 2) (aCons (cVar 4) (aCons (cCut (cBin subD (cVar 1) (cNeg (cD (.int 1)))) (oSome (cD (.int 1))) (oSome (cD (.int 3)))) (aCons (cCall sumD (aCons (cFrz (nComp (iSeq (cVar 1)) [3] (gN 3) tYesM (cBin subD (cVar 3) (cD (.int 3))))) aNil)) aNil))))))))))))
def F_board : Fn := runF 5 g_board
def b__law_prints_0 : MS := (sSeq (sSet 3 (cCall max2D (aCons (cD (.int 0)) (aCons (cBin subtD (cBin addD (cVar 3) (cFrz (nCall [0] 2 fTake (aCons (cVar 0) (aCons (cD (.int 4)) aNil))))) (cD (.int 1))) aNil))))
  (sSeq (sSet 5 (cBin subD (cFrz (nLst (aCons (cBin addD (cD (.int 100)) (cFrz (nCall [0] 2 fTake (aCons (cVar 0) (aCons (cD (.int 5)) aNil))))) (aCons (cFrz (nCall [0] 2 fTake (aCons (cVar 0) (aCons (cBin addD (cBin powD (cD (.int 10)) (cD (.int 9))) (cD (.int 1))) aNil)))) aNil)))) (cCall intD (aCons (cOf (cCmp eqD (cFrz (nCall [0] 2 fTake (aCons (cVar 0) (aCons (cD (.int 9)) aNil)))) (cD (.int 0)))) aNil))))
  (sApp [0, 0] (pVar 2) (nDat (cTup (aCons (cVar 3) (aCons (cVar 5) (aCons (cBin addD (cD (.int 1)) (cFrz (nCall [0] 2 fTake (aCons (cVar 0) (aCons (cBin subD (cFrz (nLst (aCons (cD (.int 4)) (aCons (cBin powD (cD (.int 10)) (cD (.int 6))) aNil)))) (cCall intD (aCons (cOf (cCmp eqD (cFrz (nCall [0] 2 fTake (aCons (cVar 0) (aCons (cD (.int 9)) aNil)))) (cD (.int 0)))) aNil))) aNil))))) aNil))))))))
def g__law_prints : MS := (sSeq (sSet 1 (cBin subD (cFrz (nLst (aCons (cFrz (nCall [0] 2 fTake (aCons (cVar 0) (aCons (cD (.int 6)) aNil)))) (aCons (cFrz (nCall [0] 2 fTake (aCons (cVar 0) (aCons (cD (.int 61)) aNil)))) (aCons (cFrz (nCall [0] 2 fTake (aCons (cVar 0) (aCons (cD (.int 401)) aNil)))) aNil))))) (cCall min2D (aCons (cD (.int 2)) (aCons (cBin fdivD (cFrz (nCall [0] 2 fTake (aCons (cVar 0) (aCons (cD (.int 5)) aNil)))) (cD (.int 2))) aNil)))))
  (sSeq (sSetN 2 (nLst aNil))
  (sSeq (sSet 3 (cFrz (nCall [0] 2 fTake (aCons (cVar 0) (aCons (cD (.int 9)) aNil)))))
  (sSeq (sFor (iRange1 (aCons (cVar 1) aNil)) (gN 4) b__law_prints_0)
  (sRetV 2)))))
def F__law_prints : Fn := runF 6 g__law_prints
def b_stands_0 : MS := (sSeq (sAugIx [] [] (fun i j => i - j) (pVar 2) (cVar 4) (cVar 7))
  (sSeq (sAugIx [] [] (fun i j => i + j) (pVar 3) (cVar 4) (cBin mulD (cVar 6) (cVar 7)))
  (sSeq (sAugIx [] [] (fun i j => i + j) (pVar 2) (cVar 5) (cVar 7))
  (sAugIx [] [] (fun i j => i - j) (pVar 3) (cVar 5) (cBin mulD (cVar 6) (cVar 7))))))
def g_stands : MS := (sSeq (sSetN 2 (nRep (cFrz (nLst (aCons (cD (.int 0)) aNil))) (cVar 0)))
  (sSeq (sSetN 3 (nRep (cFrz (nLst (aCons (cD (.int 0)) aNil))) (cVar 0)))
  (sSeq (sFor (iSeq (cVar 1)) (gT 5 (gsC (gN 4) (gsC (gN 5) (gsC (gN 6) (gsC (gN 7) (gsC (gN 8) gsN)))))) b_stands_0)
  (sRet (nListZip (aCons (cVar 2) (aCons (cVar 3) aNil)))))))
def F_stands : Fn := runF 9 g_stands
def b__law_stands_0 : MS := (sSeq (sSet 4 (cFrz (nComp (iSeq (cVar 1)) [5] (gN 5) (cCmp eqD (cBin subD (cVar 5) (cD (.int 1))) (cVar 3)) (cVar 5))))
  (sSeq (sSet 6 (cFrz (nComp (iSeq (cVar 1)) [5] (gN 5) (cCmp eqD (cBin subD (cVar 5) (cD (.int 0))) (cVar 3)) (cVar 5))))
  (sSeq (sSet 7 (cBin subtD (cCall sumD (aCons (cFrz (nComp (iSeq (cVar 4)) [5] (gN 5) tYesM (cBin subD (cVar 5) (cD (.int 3))))) aNil)) (cCall sumD (aCons (cFrz (nComp (iSeq (cVar 6)) [5] (gN 5) tYesM (cBin subD (cVar 5) (cD (.int 3))))) aNil))))
  (sSeq (sSet 8 (cBin subtD (cCall sumD (aCons (cFrz (nComp (iSeq (cVar 6)) [5] (gN 5) tYesM (cBin mulD (cBin subD (cVar 5) (cD (.int 2))) (cBin subD (cVar 5) (cD (.int 3)))))) aNil)) (cCall sumD (aCons (cFrz (nComp (iSeq (cVar 4)) [5] (gN 5) tYesM (cBin mulD (cBin subD (cVar 5) (cD (.int 2))) (cBin subD (cVar 5) (cD (.int 3)))))) aNil))))
  (sApp [] (pVar 2) (nDat (cTup (aCons (cVar 7) (aCons (cVar 8) aNil)))))))))
def g__law_stands : MS := (sSeq (sSetN 2 (nLst aNil))
  (sSeq (sFor (iRange1 (aCons (cVar 0) aNil)) (gN 3) b__law_stands_0)
  (sRetV 2)))
def F__law_stands : Fn := runF 9 g__law_stands
def b__law_deals_0 : MS := (sSeq (sSet 5 (cFrz (nCall [0, 1] 2 fTake (aCons (cVar 0) (aCons (cVar 1) aNil)))))
  (sSeq (sSet 6 (cBin modD (cBin addD (cBin addD (cVar 5) (cD (.int 1))) (cFrz (nCall [0] 2 fTake (aCons (cVar 0) (aCons (cBin subtD (cVar 1) (cD (.int 1))) aNil))))) (cVar 1)))
  (sSeq (sSet 7 (cBin subD (cFrz (nLst (aCons (cBin addD (cD (.int 100)) (cFrz (nCall [0] 2 fTake (aCons (cVar 0) (aCons (cD (.int 9)) aNil))))) (aCons (cFrz (nCall [0] 2 fTake (aCons (cVar 0) (aCons (cBin addD (cBin powD (cD (.int 10)) (cD (.int 9))) (cD (.int 1))) aNil)))) aNil)))) (cCall intD (aCons (cOf (cCmp eqD (cFrz (nCall [0] 2 fTake (aCons (cVar 0) (aCons (cD (.int 9)) aNil)))) (cD (.int 0)))) aNil))))
  (sSeq (sSet 8 (cBin addD (cD (.int 1)) (cFrz (nCall [0] 2 fTake (aCons (cVar 0) (aCons (cBin subD (cFrz (nLst (aCons (cD (.int 6)) (aCons (cD (.int 6)) (aCons (cD (.int 6)) (aCons (cBin powD (cD (.int 10)) (cD (.int 6))) aNil)))))) (cFrz (nCall [0] 2 fTake (aCons (cVar 0) (aCons (cD (.int 4)) aNil))))) aNil))))))
  (sApp [0, 0] (pVar 3) (nDat (cTup (aCons (cVar 5) (aCons (cVar 6) (aCons (cVar 7) (aCons (cVar 8) (aCons (cFrz (nCall [0] 2 fTake (aCons (cVar 0) (aCons (cBin subD (cFrz (nLst (aCons (cD (.int 2)) (aCons (cD (.int 30)) (aCons (cBin powD (cD (.int 10)) (cD (.int 9))) aNil))))) (cFrz (nCall [0] 2 fTake (aCons (cVar 0) (aCons (cD (.int 3)) aNil))))) aNil)))) aNil))))))))))))
def g__law_deals : MS := (sSeq (sSetN 3 (nLst aNil))
  (sSeq (sFor (iRange1 (aCons (cFrz (nCall [0] 2 fTake (aCons (cVar 0) (aCons (cBin addD (cVar 2) (cD (.int 1))) aNil)))) aNil)) (gN 4) b__law_deals_0)
  (sRetV 3)))
def F__law_deals : Fn := runF 9 g__law_deals
def b_deals_of_0 : MS := (sSeq (sIf (cCmp eqD (cVar 4) (cVar 1)) (sApp [] (pVar 2) (nDat (cTup (aCons (cVar 7) (aCons (cVar 5) (aCons (cVar 3) (aCons (cVar 6) (aCons (cD (.int 0)) aNil)))))))) sNil)
  (sIf (cCmp eqD (cVar 3) (cVar 1)) (sApp [] (pVar 2) (nDat (cTup (aCons (cVar 7) (aCons (cVar 5) (aCons (cVar 4) (aCons (cVar 6) (aCons (cD (.int 1)) aNil)))))))) sNil))
def g_deals_of : MS := (sSeq (sSetN 2 (nLst aNil))
  (sSeq (sFor (iSeq (cVar 0)) (gT 5 (gsC (gN 3) (gsC (gN 4) (gsC (gN 5) (gsC (gN 6) (gsC (gN 7) gsN)))))) b_deals_of_0)
  (sRet (nDat (cCall sortedD (aCons (cVar 2) aNil))))))
def F_deals_of : Fn := runF 8 g_deals_of
def b__law_single_0 : MS := (sExt [] (pVar 8) (cBin repD (cFrz (nLst (aCons (cTup (aCons (cBin subD (cVar 10) (cD (.int 1))) (aCons (cBin subtD (cD (.int 1)) (cBin mulD (cD (.int 2)) (cBin subD (cVar 10) (cD (.int 4))))) (aCons (cVar 9) aNil)))) aNil))) (cBin subD (cVar 10) (cD (.int 3)))))
def b__law_single_1 : MS := (sIf (cCmp inD (cVar 1) (cTup (aCons (cVar 3) (aCons (cVar 4) aNil)))) (sApp [] (pVar 2) (nDat (cTup (aCons (cVar 7) (aCons (cVar 5) (aCons (cBin subD (cFrz (nLst (aCons (cVar 4) (aCons (cVar 3) aNil)))) (cCall intD (aCons (cOf (cCmp eqD (cVar 4) (cVar 1))) aNil))) (aCons (cVar 6) (aCons (cCall intD (aCons (cOf (cCmp eqD (cVar 3) (cVar 1))) aNil)) aNil)))))))) sNil)
def g__law_single : MS := (sSeq (sSetN 2 (nLst aNil))
  (sSeq (sFor (iSeq (cVar 0)) (gT 5 (gsC (gN 3) (gsC (gN 4) (gsC (gN 5) (gsC (gN 6) (gsC (gN 7) gsN)))))) b__law_single_1)
  (sSeq (sSetN 8 (nLst aNil))
  (sSeq (sFor (iEnumD (aCons (cCall sortedD (aCons (cVar 2) aNil)) aNil)) (gT 2 (gsC (gN 9) (gsC (gN 10) gsN))) b__law_single_0)
  (sRetV 8)))))
def F__law_single : Fn := runF 11 g__law_single
def b_pieces_0 : MS := (sSeq (sAsg (gT 2 (gsC (gN 11) (gsC (gN 12) gsN))) (cBin subD (cVar 3) (cD (.int 0))))
  (sSeq (sSet 13 (cCall min2D (aCons (cVar 12) (aCons (cVar 8) aNil))))
  (sSeq (sApp [] (pVar 2) (nDat (cTup (aCons (cVar 11) (aCons (cVar 6) (aCons (cVar 13) (aCons (cVar 10) aNil)))))))
  (sSeq (sAug 8 (fun i j => i - j) (cVar 13))
  (sSetN 3 (nCat (cBin repD (cFrz (nLst (aCons (cTup (aCons (cVar 11) (aCons (cBin subtD (cVar 12) (cVar 13)) aNil))) aNil))) (cCall intD (aCons (cOf (cCmp gtD (cVar 12) (cVar 13))) aNil))) (cCut (cVar 3) (oSome (cD (.int 1))) oNone)))))))
def b_pieces_1 : MS := (sSeq (sSet 10 (cBin subD (cFrz (nLst (aCons (cD (.str s_owed)) (aCons (cD (.str s_had)) aNil)))) (cVar 9)))
  (sSeq (sWhile fuel (cAnd (cCmp gtD (cVar 8) (cD (.int 0))) (cAnd (cCmp neD (cVar 3) (cFrz (nLst aNil))) (cCmp eqD (cVar 4) (cVar 9)))) b_pieces_0)
  (sIf (cCmp gtD (cVar 8) (cD (.int 0))) (sSeq (sSet 4 (cBin subtD (cD (.int 1)) (cVar 9)))
  (sApp [] (pVar 3) (nDat (cTup (aCons (cVar 6) (aCons (cVar 8) aNil)))))) sNil)))
def g_pieces : MS := (sSeq (sSetN 2 (nLst aNil))
  (sSeq (sSetN 3 (nLst aNil))
  (sSeq (sSet 4 (cD (.int 0)))
  (sSeq (sFor (iSeq (cFrz (nCall [0, 1] 2 F_deals_of (aCons (cVar 0) (aCons (cVar 1) aNil))))) (gT 5 (gsC (gN 5) (gsC (gN 6) (gsC (gN 7) (gsC (gN 8) (gsC (gN 9) gsN)))))) b_pieces_1)
  (sSeq (sIf (cCmp eqD (cVar 3) (cFrz (nLst aNil))) (sRet (nTupT (tConsM (nMv 2) (tConsM (nTupT (tConsM (nDat (cD (.str s_nothing))) (tConsM (nLst aNil) tNilM))) tNilM)))) sNil)
  (sRet (nTupT (tConsM (nMv 2) (tConsM (nTupT (tConsM (nDat (cBin subD (cFrz (nLst (aCons (cD (.str s_owes)) (aCons (cD (.str s_has)) aNil)))) (cVar 4))) (tConsM (nMv 3) tNilM))) tNilM)))))))))
def F_pieces : Fn := runF 14 g_pieces
def b__law_pieces_0 : MS := (sIf (cAnd (cCmp neD (cVar 9) (cFrz (nLst aNil))) (cCmp eqD (cLeaf (pIx [] (pIx [] (pVar 9) (cNeg (cD (.int 1)))) (cD (.int 2)))) (cVar 6))) (sSetIx [] (cBin addD (cLeaf (pIx [] (pIx [] (pVar 9) (cNeg (cD (.int 1)))) (cD (.int 1)))) (cD (.int 1))) (pIx [] (pVar 9) (cNeg (cD (.int 1)))) (cD (.int 1))) (sApp [] (pVar 9) (nLst (aCons (cVar 4) (aCons (cD (.int 1)) (aCons (cVar 6) aNil))))))
def b__law_pieces_1 : MS := (sIf (cAnd (cCmp neD (cVar 3) (cFrz (nLst aNil))) (cCmp neD (cBin subD (cBin subD (cVar 3) (cD (.int 0))) (cD (.int 1))) (cVar 5))) (sSeq (sSet 7 (cPop 3 [] (aCons (cD (.int 0)) aNil)))
  (sSeq (sSetN 8 (nLst (aCons (cBin subD (cVar 7) (cD (.int 0))) (aCons (cVar 4) (aCons (cD (.int 1)) (aCons (cBin subD (cFrz (nLst (aCons (cD (.str s_owed)) (aCons (cD (.str s_had)) aNil)))) (cCall intD (aCons (cOf (cCmp ltD (cVar 5) (cD (.int 0)))) aNil))) (aCons (cBin subD (cVar 7) (cD (.int 2))) (aCons (cVar 6) aNil))))))))
  (sIf (cAnd (cCmp neD (cVar 2) (cFrz (nLst aNil))) (cCmp eqD (cCutP [] (pIx [] (pVar 2) (cNeg (cD (.int 1)))) (oSome (cD (.int 4))) oNone) (cCut (cVar 8) (oSome (cD (.int 4))) oNone))) (sSetIx [] (cBin addD (cLeaf (pIx [] (pIx [] (pVar 2) (cNeg (cD (.int 1)))) (cD (.int 2)))) (cD (.int 1))) (pIx [] (pVar 2) (cNeg (cD (.int 1)))) (cD (.int 2))) (sApp [8] (pVar 2) (nMv 8))))) (sApp [] (pVar 3) (nDat (cTup (aCons (cVar 4) (aCons (cVar 5) (aCons (cVar 6) aNil)))))))
def g__law_pieces : MS := (sSeq (sSetN 2 (nLst aNil))
  (sSeq (sSetN 3 (nLst aNil))
  (sSeq (sFor (iSeq (cFrz (nCall [0, 1] 2 F__law_single (aCons (cVar 0) (aCons (cVar 1) aNil))))) (gT 3 (gsC (gN 4) (gsC (gN 5) (gsC (gN 6) gsN)))) b__law_pieces_1)
  (sSeq (sSetN 9 (nLst aNil))
  (sSeq (sFz 3 (sFor (iSeq (cVar 3)) (gT 3 (gsC (gN 4) (gsC (gN 5) (gsC (gN 6) gsN)))) b__law_pieces_0))
  (sSeq (sSet 10 (cD (.str s_nothing)))
  (sSeq (sIf (cCmp neD (cVar 3) (cFrz (nLst aNil))) (sSet 10 (cBin subD (cFrz (nLst (aCons (cD (.str s_owes)) (aCons (cD (.str s_has)) aNil)))) (cCall intD (aCons (cOf (cCmp gtD (cBin subD (cBin subD (cVar 3) (cD (.int 0))) (cD (.int 1))) (cD (.int 0)))) aNil)))) sNil)
  (sFg 8 (sFz 9 (sFz 2 (sRet (nDat (cTup (aCons (cFrz (nComp (iSeq (cVar 2)) [8] (gN 8) tYesM (cCall tupleD (aCons (cCut (cVar 8) oNone (oSome (cD (.int 4)))) aNil)))) (aCons (cTup (aCons (cVar 10) (aCons (cFrz (nComp (iSeq (cVar 9)) [8] (gN 8) tYesM (cCall tupleD (aCons (cCut (cVar 8) oNone (oSome (cD (.int 2)))) aNil)))) aNil))) aNil)))))))))))))))
def F__law_pieces : Fn := runF 11 g__law_pieces
def b__law_small_deals_0 : MS := (sSeq (sSet 5 (cFrz (nCall [0, 1] 2 fTake (aCons (cVar 0) (aCons (cVar 1) aNil)))))
  (sSeq (sSet 6 (cBin modD (cBin addD (cBin addD (cVar 5) (cD (.int 1))) (cFrz (nCall [0] 2 fTake (aCons (cVar 0) (aCons (cBin subtD (cVar 1) (cD (.int 1))) aNil))))) (cVar 1)))
  (sApp [0, 0, 0] (pVar 3) (nDat (cTup (aCons (cVar 5) (aCons (cVar 6) (aCons (cBin addD (cD (.int 100)) (cFrz (nCall [0] 2 fTake (aCons (cVar 0) (aCons (cD (.int 4)) aNil))))) (aCons (cBin addD (cD (.int 1)) (cFrz (nCall [0] 2 fTake (aCons (cVar 0) (aCons (cD (.int 6)) aNil))))) (aCons (cFrz (nCall [0] 2 fTake (aCons (cVar 0) (aCons (cD (.int 5)) aNil)))) aNil))))))))))
def g__law_small_deals : MS := (sSeq (sSetN 3 (nLst aNil))
  (sSeq (sFor (iRange1 (aCons (cFrz (nCall [0] 2 fTake (aCons (cVar 0) (aCons (cBin addD (cVar 2) (cD (.int 1))) aNil)))) aNil)) (gN 4) b__law_small_deals_0)
  (sRetV 3)))
def F__law_small_deals : Fn := runF 7 g__law_small_deals
def b_gain_0 : MS := (sAug 5 (fun i j => i + j) (cBin mulD (cBin mulD (cBin subtD (cVar 2) (cVar 6)) (cVar 8)) (cBin subtD (cD (.int 1)) (cBin mulD (cD (.int 2)) (cCall intD (aCons (cOf (cCmp eqD (cBin subD (cVar 4) (cD (.int 0))) (cD (.str s_owes)))) aNil))))))
def b_gain_1 : MS := (sAug 5 (fun i j => i + j) (cBin mulD (cBin mulD (cBin subtD (cVar 7) (cVar 6)) (cVar 8)) (cBin subtD (cD (.int 1)) (cBin mulD (cD (.int 2)) (cCall intD (aCons (cOf (cCmp eqD (cVar 9) (cD (.str s_owed)))) aNil))))))
def g_gain : MS := (sSeq (sAsg (gT 2 (gsC (gN 3) (gsC (gN 4) gsN))) (cFrz (nCall [0, 1] 2 F_pieces (aCons (cVar 0) (aCons (cVar 1) aNil)))))
  (sSeq (sSet 5 (cD (.int 0)))
  (sSeq (sFor (iSeq (cVar 3)) (gT 4 (gsC (gN 6) (gsC (gN 7) (gsC (gN 8) (gsC (gN 9) gsN))))) b_gain_1)
  (sSeq (sFor (iSeq (cBin subD (cVar 4) (cD (.int 1)))) (gT 2 (gsC (gN 6) (gsC (gN 8) gsN))) b_gain_0)
  (sRetV 5)))))
def F_gain : Fn := runF 10 g_gain
def b_sums_of_0 : MS := (sSet 1 (cBin addD (cVar 1) (cFrz (nComp (iSeq (cVar 1)) [3] (gN 3) tYesM (cBin addD (cVar 3) (cVar 2))))))
def g_sums_of : MS := (sSeq (sSet 1 (cFrz (nLst (aCons (cD (.int 0)) aNil))))
  (sSeq (sFor (iSeq (cVar 0)) (gN 2) b_sums_of_0)
  (sRetV 1)))
def F_sums_of : Fn := runF 4 g_sums_of
def g_one_way : MS := (sSeq (sIf (cCmp inD (cD (.str s_side)) (cFrz (nCallR [0, 1] 2 F_quarrel_of (aCons (cVar 0) (aCons (cVar 1) aNil))))) (sRet (nDat (cD (.tuple [(.str s_void)])))) sNil)
  (sSeq (sSet 3 (cCall min2D (aCons (cBin subD (cVar 0) (cD (.int 4))) (aCons (cBin subD (cVar 1) (cD (.int 4))) aNil))))
  (sSeq (sIf (cCmp eqD (cBin subD (cVar 0) (cD (.int 3))) (cBin subD (cVar 1) (cD (.int 3)))) (sRet (nDat (cTup (aCons (cD (.str s_done)) (aCons (cBin subD (cVar 0) (cD (.int 3))) (aCons (cVar 3) aNil)))))) sNil)
  (sSeq (sSet 4 (cBin subD (cVar 0) (cD (.int 3))))
  (sSeq (sSet 5 (cBin subD (cVar 1) (cD (.int 3))))
  (sSeq (sIf (cCmp eqD (cBin subD (cVar 0) (cD (.int 2))) (cD (.str sBought))) (sSeq (sSet 4 (cBin subD (cVar 1) (cD (.int 3))))
  (sSet 5 (cBin subD (cVar 0) (cD (.int 3))))) sNil)
  (sSeq (sIf (cChain leD leD (cVar 4) (cVar 2) (cVar 5)) (sRet (nDat (cTup (aCons (cD (.str s_done)) (aCons (cVar 2) (aCons (cVar 3) aNil)))))) sNil)
  (sRet (nDat (cD (.tuple [(.str s_left)])))))))))))
def F_one_way : Fn := runF 6 g_one_way
def g__law_word : MS := (sSeq (sIf (cCmp neD (cBin subD (cVar 0) (cD (.str s_end))) (cD (.str s_x))) (sRet (nDat (cBin subD (cVar 0) (cD (.str s_end))))) sNil)
  (sRet (nDat (cBin subD (cFrz (nLst (aCons (cD (.str s_open)) (aCons (cD (.str s_half)) (aCons (cD (.str s_quarrel)) aNil))))) (cCall lenD (aCons (cBin subD (cVar 0) (cD (.str sIn))) aNil))))))
def F__law_word : Fn := runF 1 g__law_word
def b__law_standing_0 : MS := (sSeq (sAsg (gT 4 (gsC (gN 5) (gsC (gN 6) (gsC (gN 7) (gsC (gN 8) gsN))))) (cBin subD (cBin subD (cVar 0) (cD (.str s_offers))) (cVar 4)))
  (sIf (cAnd (cCmp eqD (cVar 5) (cVar 1)) (cCmp eqD (cBin subD (cVar 6) (cD (.int 0))) (cVar 2))) (sApp [] (pVar 3) (nDat (cVar 4))) sNil))
def g__law_standing : MS := (sSeq (sSetN 3 (nLst aNil))
  (sSeq (sFor (iSeq (cBin subD (cVar 0) (cD (.str s_offers)))) (gN 4) b__law_standing_0)
  (sRetV 3)))
def F__law_standing : Fn := runF 9 g__law_standing
def g__law_done : MS := (sSeq (sSet 4 (cBin subD (cBin subD (cVar 0) (cD (.str s_made))) (cVar 1)))
  (sSeq (sSetIx [] (cD (.str s_done)) (pVar 4) (cD (.str s_end)))
  (sSeq (sAsg (gT 2 (gsC (gN 5) (gsC (gN 6) gsN))) (cBin subD (cVar 4) (cD (.str s_cards))))
  (sSeq (sSet 7 (cBin subD (cFrz (nComp (iSeq (cTup (aCons (cVar 5) (aCons (cVar 6) aNil)))) [8] (gN 8) (cCmp eqD (cBin subD (cVar 8) (cD (.int 2))) (cD (.str sSold))) (cBin subD (cVar 8) (cD (.int 0))))) (cD (.int 0))))
  (sSeq (sSet 9 (cBin subD (cFrz (nComp (iSeq (cTup (aCons (cVar 5) (aCons (cVar 6) aNil)))) [8] (gN 8) (cCmp eqD (cBin subD (cVar 8) (cD (.int 2))) (cD (.str sBought))) (cBin subD (cVar 8) (cD (.int 0))))) (cD (.int 0))))
  (sSeq (sApp [] (pIx [] (pVar 0) (cD (.str s_deals))) (nDat (cTup (aCons (cVar 7) (aCons (cVar 9) (aCons (cVar 2) (aCons (cVar 3) (aCons (cBin subD (cVar 5) (cD (.int 5))) aNil))))))))
  (sApp [] (pIx [] (pVar 0) (cD (.str s_prints))) (nDat (cTup (aCons (cBin subD (cVar 5) (cD (.int 5))) (aCons (cVar 2) (aCons (cVar 3) aNil))))))))))))
def F__law_done : Fn := runF 10 g__law_done
def g__law_first : MS := (sSeq (sSet 2 (cBin subD (cVar 1) (cD (.int 0))))
  (sSeq (sIf (cAnd (cCmp inD (cVar 2) (cFrz (nLst (aCons (cD (.str s_hold)) (aCons (cD (.str s_lower)) (aCons (cD (.str s_take)) (aCons (cD (.str s_pass)) (aCons (cD (.str s_close)) aNil)))))))) (cNot (cTest (cBin subD (cVar 0) (cD (.str s_open)))))) (sRet (nDat (cD (.str s_Closed)))) sNil)
  (sSeq (sIf (cAnd (cCmp inD (cVar 2) (cFrz (nLst (aCons (cD (.str s_hold)) (aCons (cD (.str s_lower)) (aCons (cD (.str s_take)) (aCons (cD (.str sIn)) (aCons (cD (.str s_consent)) aNil)))))))) (cNot (cChain leD ltD (cD (.int 0)) (cBin subD (cVar 1) (cD (.int 1))) (cBin subD (cVar 0) (cD (.str s_many)))))) (sRet (nDat (cD (.str s_NoMember)))) sNil)
  (sSeq (sIf (cAnd (cCmp eqD (cVar 2) (cD (.str s_lower))) (cCmp eqD (cFrz (nCall [0] 3 F__law_standing (aCons (cVar 0) (aCons (cBin subD (cVar 1) (cD (.int 1))) (aCons (cBin subD (cVar 1) (cD (.int 2))) aNil))))) (cFrz (nLst aNil)))) (sRet (nDat (cD (.str s_NoOffer)))) sNil)
  (sSeq (sIf (cCmp inD (cVar 2) (cFrz (nLst (aCons (cD (.str sIn)) (aCons (cD (.str s_consent)) (aCons (cD (.str s_settle)) aNil)))))) (sSeq (sSet 3 (cBin subD (cVar 1) (cBin addD (cD (.int 1)) (cCall intD (aCons (cOf (cCmp neD (cVar 2) (cD (.str s_settle)))) aNil)))))
  (sSeq (sIf (cNot (cChain leD ltD (cD (.int 0)) (cVar 3) (cCall lenD (aCons (cBin subD (cVar 0) (cD (.str s_made))) aNil)))) (sRet (nDat (cD (.str s_NoBargain)))) sNil)
  (sSeq (sSet 4 (cBin subD (cBin subD (cVar 0) (cD (.str s_made))) (cVar 3)))
  (sSeq (sIf (cAnd (cCmp neD (cVar 2) (cD (.str s_settle))) (cCmp notInD (cBin subD (cVar 1) (cD (.int 1))) (cCut (cBin subD (cBin subD (cVar 4) (cD (.str s_cards))) (cD (.int 0))) oNone (oSome (cD (.int 2)))))) (sRet (nDat (cD (.str s_NotTheirs)))) sNil)
  (sSeq (sIf (cCmp eqD (cVar 2) (cD (.str sIn))) (sRet (nDat (cIf (cCmp inD (cBin subD (cVar 1) (cD (.int 1))) (cBin subD (cVar 4) (cD (.str sIn)))) (cD (.str s_Twice)) (cD (.str s_x))))) sNil)
  (sSeq (sIf (cCmp neD (cFrz (nCall [4] 1 F__law_word (aCons (cVar 4) aNil))) (cD (.str s_quarrel))) (sRet (nDat (cD (.str s_NoQuarrel)))) sNil)
  (sSeq (sIf (cAnd (cCmp eqD (cVar 2) (cD (.str s_consent))) (cCmp eqD (cBin subD (cBin subD (cBin subD (cVar 4) (cD (.str s_cards))) (cD (.int 0))) (cD (.int 2))) (cBin subD (cBin subD (cBin subD (cVar 4) (cD (.str s_cards))) (cD (.int 1))) (cD (.int 2))))) (sRet (nDat (cD (.str s_NoWay)))) sNil)
  (sIf (cAnd (cCmp eqD (cVar 2) (cD (.str s_consent))) (cNot (cAnd (cChain leD leD (cD (.int 0)) (cBin subD (cVar 1) (cD (.int 3))) (cBin powD (cD (.int 10)) (cD (.int 8)))) (cChain leD leD (cD (.int 1)) (cBin subD (cVar 1) (cD (.int 4))) (cBin powD (cD (.int 10)) (cD (.int 6))))))) (sRet (nDat (cD (.str s_BadNumber)))) sNil)))))))) sNil)
  (sSeq (sIf (cAnd (cCmp eqD (cVar 2) (cD (.str s_pass))) (cNot (cChain leD leD (cD (.int 1)) (cBin subD (cVar 1) (cD (.int 1))) (cD (.int 1000))))) (sRet (nDat (cD (.str s_BadNumber)))) sNil)
  (sRet (nDat (cD (.str s_x))))))))))
def F__law_first : Fn := runF 5 g__law_first
def b__law_card_call_0 : MS := (sIf (cAnd (cCmp neD (cVar 9) (cVar 2)) (cCmp gtD (cFrz (nCall [0] 2 fTake (aCons (cVar 0) (aCons (cD (.int 3)) aNil)))) (cD (.int 0)))) (sAsg (gT 2 (gsC (gN 6) (gsC (gN 7) gsN))) (cBin subD (cBin subD (cVar 8) (cD (.str s_consents))) (cVar 9))) sNil)
def g__law_card_call : MS := (sSeq (sSet 4 (cCall lenD (aCons (cBin subD (cVar 1) (cD (.str s_made))) aNil)))
  (sSeq (sSet 5 (cBin subtD (cFrz (nCall [0] 2 fTake (aCons (cVar 0) (aCons (cBin addD (cVar 4) (cD (.int 2))) aNil)))) (cD (.int 1))))
  (sSeq (sSet 6 (cFrz (nCall [] 2 F_called_price (aCons (cBin subD (cVar 1) (cD (.str s_prints))) (aCons (cBin subD (cVar 1) (cD (.str s_first))) aNil)))))
  (sSeq (sSet 7 (cBin addD (cD (.int 1)) (cFrz (nCall [0] 2 fTake (aCons (cVar 0) (aCons (cD (.int 5)) aNil))))))
  (sSeq (sIf (cAnd (cCmp gtD (cVar 4) (cD (.int 0))) (cCmp gtD (cFrz (nCall [0] 2 fTake (aCons (cVar 0) (aCons (cD (.int 12)) aNil)))) (cD (.int 0)))) (sSeq (sSet 5 (cCall max2D (aCons (cFrz (nCall [0, 4] 2 fTake (aCons (cVar 0) (aCons (cVar 4) aNil)))) (aCons (cFrz (nCall [0, 4] 2 fTake (aCons (cVar 0) (aCons (cVar 4) aNil)))) aNil))))
  (sSeq (sSet 8 (cBin subD (cBin subD (cVar 1) (cD (.str s_made))) (cVar 5)))
  (sSeq (sIf (cCmp gtD (cFrz (nCall [0] 2 fTake (aCons (cVar 0) (aCons (cD (.int 12)) aNil)))) (cD (.int 0))) (sSet 2 (cBin subD (cBin subD (cBin subD (cVar 8) (cD (.str s_cards))) (cFrz (nCall [0] 2 fTake (aCons (cVar 0) (aCons (cD (.int 2)) aNil))))) (cD (.int 0)))) sNil)
  (sSeq (sSet 6 (cBin subD (cFrz (nLst (aCons (cVar 6) (aCons (cBin subD (cBin subD (cBin subD (cVar 8) (cD (.str s_cards))) (cD (.int 0))) (cD (.int 3))) (aCons (cBin subD (cBin subD (cBin subD (cVar 8) (cD (.str s_cards))) (cD (.int 1))) (cD (.int 3))) aNil))))) (cFrz (nCall [0] 2 fTake (aCons (cVar 0) (aCons (cD (.int 3)) aNil))))))
  (sSeq (sSet 7 (cBin subD (cBin subD (cBin subD (cVar 8) (cD (.str s_cards))) (cFrz (nCall [0] 2 fTake (aCons (cVar 0) (aCons (cD (.int 2)) aNil))))) (cD (.int 4))))
  (sFor (iSeq (cBin subD (cVar 8) (cD (.str s_consents)))) (gN 9) b__law_card_call_0)))))) sNil)
  (sSeq (sIf (cCmp ltD (cVar 3) (cD (.int 17))) (sRet (nDat (cTup (aCons (cD (.str sIn)) (aCons (cVar 2) (aCons (cVar 5) aNil)))))) sNil)
  (sSeq (sIf (cCmp eqD (cVar 3) (cD (.int 17))) (sRet (nDat (cTup (aCons (cD (.str s_settle)) (aCons (cVar 5) aNil))))) sNil)
  (sSeq (sIf (cCmp eqD (cFrz (nCall [0] 2 fTake (aCons (cVar 0) (aCons (cD (.int 15)) aNil)))) (cD (.int 0))) (sAsg (gT 2 (gsC (gN 6) (gsC (gN 7) gsN))) (cBin subD (cFrz (nLst (aCons (cTup (aCons (cNeg (cD (.int 1))) (aCons (cD (.int 1)) aNil))) (aCons (cTup (aCons (cBin addD (cBin powD (cD (.int 10)) (cD (.int 8))) (cD (.int 1))) (aCons (cD (.int 1)) aNil))) (aCons (cTup (aCons (cBin powD (cD (.int 10)) (cD (.int 8))) (aCons (cD (.int 0)) aNil))) (aCons (cTup (aCons (cBin powD (cD (.int 10)) (cD (.int 8))) (aCons (cBin powD (cD (.int 10)) (cD (.int 6))) aNil))) (aCons (cTup (aCons (cD (.int 1)) (aCons (cD (.int 1000001)) aNil))) aNil))))))) (cFrz (nCall [0] 2 fTake (aCons (cVar 0) (aCons (cD (.int 5)) aNil)))))) sNil)
  (sRet (nDat (cTup (aCons (cD (.str s_consent)) (aCons (cVar 2) (aCons (cVar 5) (aCons (cVar 6) (aCons (cVar 7) aNil))))))))))))))))
def F__law_card_call : Fn := runF 10 g__law_card_call
def g__law_none : MS := (sRet (nDat (cBin subD (cFrz (nLst (aCons (cCut (cVar 1) (oSome (cD (.int 1))) oNone) (aCons (cCall listD (aCons (cVar 1) aNil)) (aCons (cBin addD (cCut (cVar 1) oNone (oSome (cNeg (cD (.int 1))))) (cTup (aCons (cD (.str s_nose)) aNil))) (aCons (cD .none) (aCons (cBin addD (cTup (aCons (cD (.bool true)) aNil)) (cCut (cVar 1) (oSome (cD (.int 1))) oNone)) aNil))))))) (cFrz (nCall [0] 2 fTake (aCons (cVar 0) (aCons (cD (.int 5)) aNil)))))))
def F__law_none : Fn := runF 2 g__law_none
def g__law_take_call : MS := (sSeq (sSet 3 (cCall sortedD (aCons (cBin subD (cVar 1) (cD (.str s_offers))) aNil)))
  (sSeq (sSet 4 (cBin subtD (cFrz (nCall [0] 2 fTake (aCons (cVar 0) (aCons (cBin addD (cBin subD (cVar 1) (cD (.str s_next))) (cD (.int 2))) aNil)))) (cD (.int 1))))
  (sSeq (sIf (cAnd (cCmp neD (cVar 3) (cFrz (nLst aNil))) (cCmp gtD (cFrz (nCall [0] 2 fTake (aCons (cVar 0) (aCons (cD (.int 12)) aNil)))) (cD (.int 0)))) (sSet 4 (cBin subD (cVar 3) (cFrz (nCall [0] 2 fTake (aCons (cVar 0) (aCons (cCall lenD (aCons (cVar 3) aNil)) aNil)))))) sNil)
  (sSeq (sSet 5 (cFrz (nCall [0] 1 fSign (aCons (cVar 0) aNil))))
  (sSeq (sIf (cCmp inD (cVar 4) (cBin subD (cVar 1) (cD (.str s_offers)))) (sSet 5 (cBin subD (cBin subD (cBin subD (cVar 1) (cD (.str s_offers))) (cVar 4)) (cD (.int 1)))) sNil)
  (sSeq (sSet 6 (cBin addD (cBin addD (cBin repD (cFrz (nLst (aCons (cVar 5) aNil))) (cD (.int 6))) (cFrz (nCall [5] 1 F_alikes (aCons (cVar 5) aNil)))) (cBin repD (cFrz (nLst (aCons (cFrz (nCall [0] 1 fSign (aCons (cVar 0) aNil))) aNil))) (cFrz (nCall [0] 2 fTake (aCons (cVar 0) (aCons (cD (.int 2)) aNil)))))))
  (sSeq (sSet 7 (cBin subD (cVar 6) (cFrz (nCall [0] 2 fTake (aCons (cVar 0) (aCons (cCall lenD (aCons (cVar 6) aNil)) aNil))))))
  (sSeq (sSet 8 (cBin subD (cFrz (nLst (aCons (cCut (cVar 7) (oSome (cD (.int 2))) oNone) (aCons (cTup (aCons (cBin addD (cD (.int 1)) (cFrz (nCall [0] 2 fTake (aCons (cVar 0) (aCons (cD (.int 9)) aNil))))) (aCons (cD (.str sChin)) aNil))) (aCons (cTup (aCons (cD (.int 1)) (aCons (cD (.str sChin)) aNil))) (aCons (cFrz (nCall [0] 1 fShowing (aCons (cVar 0) aNil))) aNil)))))) (cFrz (nCall [0] 2 fTake (aCons (cVar 0) (aCons (cD (.int 4)) aNil))))))
  (sSeq (sSet 6 (cBin addD (cBin addD (cBin repD (cFrz (nLst (aCons (cVar 8) aNil))) (cD (.int 6))) (cFrz (nCall [8] 1 F_alikes (aCons (cVar 8) aNil)))) (cBin repD (cFrz (nLst (aCons (cFrz (nCall [0] 1 fShowing (aCons (cVar 0) aNil))) aNil))) (cFrz (nCall [0] 2 fTake (aCons (cVar 0) (aCons (cD (.int 2)) aNil)))))))
  (sSeq (sSetN 9 (nLst (aCons (cVar 7) (aCons (cVar 8) (aCons (cBin subD (cVar 6) (cFrz (nCall [0] 2 fTake (aCons (cVar 0) (aCons (cCall lenD (aCons (cVar 6) aNil)) aNil))))) aNil)))))
  (sSeq (sSet 10 (cFrz (nCall [0] 2 fTake (aCons (cVar 0) (aCons (cD (.int 40)) aNil)))))
  (sSeq (sIf (cCmp ltD (cVar 10) (cD (.int 3))) (sSetIx [] (cFrz (nCall [0] 2 F__law_none (aCons (cVar 0) (aCons (cBin subD (cVar 9) (cVar 10)) aNil)))) (pVar 9) (cVar 10)) sNil)
  (sRet (nDat (cBin addD (cTup (aCons (cD (.str s_take)) (aCons (cVar 2) (aCons (cVar 4) aNil)))) (cCall tupleD (aCons (cVar 9) aNil)))))))))))))))))
def F__law_take_call : Fn := runF 11 g__law_take_call
def g__law_taking : MS := (sSeq (sAsg (gT 6 (gsC (gN 2) (gsC (gN 3) (gsC (gN 4) (gsC (gN 5) (gsC (gN 6) (gsC (gN 7) gsN))))))) (cVar 1))
  (sSeq (sIf (cCmp notInD (cVar 4) (cBin subD (cVar 0) (cD (.str s_offers)))) (sRet (nDat (cD (.str s_NoOffer)))) sNil)
  (sSeq (sAsg (gT 4 (gsC (gN 8) (gsC (gN 9) (gsC (gN 10) (gsC (gN 11) gsN))))) (cBin subD (cBin subD (cVar 0) (cD (.str s_offers))) (cVar 4)))
  (sSeq (sIf (cCmp eqD (cVar 8) (cVar 3)) (sRet (nDat (cD (.str s_Own)))) sNil)
  (sSeq (sIf (cOr (cNot (cTest (cFrz (nCall [5] 1 F_is_sign (aCons (cVar 5) aNil))))) (cOr (cNot (cTest (cFrz (nCall [6] 1 F_is_showing (aCons (cVar 6) aNil))))) (cNot (cTest (cFrz (nCall [7] 1 F_is_showing (aCons (cVar 7) aNil))))))) (sRet (nDat (cD (.str s_NoSign)))) sNil)
  (sSeq (sIf (cOr (cCmp notInD (cVar 5) (cBin addD (cFrz (nLst (aCons (cVar 9) aNil))) (cFrz (nCall [9] 1 F_alikes (aCons (cVar 9) aNil))))) (cCmp notInD (cVar 7) (cBin addD (cFrz (nLst (aCons (cVar 6) aNil))) (cFrz (nCall [6] 1 F_alikes (aCons (cVar 6) aNil)))))) (sRet (nDat (cD (.str s_NotSeen)))) sNil)
  (sRet (nDat (cIf (cCmp gtD (cFrz (nCall [6] 1 F_lots_of (aCons (cVar 6) aNil))) (cFrz (nCall [5] 1 F_lots_of (aCons (cVar 5) aNil)))) (cD (.str s_TooMany)) (cD (.str s_x)))))))))))
def F__law_taking : Fn := runF 12 g__law_taking
def g__law_call : MS := (sSeq (sSet 2 (cFrz (nCall [0] 2 fTake (aCons (cVar 0) (aCons (cD (.int 24)) aNil)))))
  (sSeq (sSet 3 (cFrz (nCall [0] 2 fTake (aCons (cVar 0) (aCons (cBin subD (cVar 1) (cD (.str s_many))) aNil)))))
  (sSeq (sIf (cCmp eqD (cFrz (nCall [0] 2 fTake (aCons (cVar 0) (aCons (cD (.int 25)) aNil)))) (cD (.int 0))) (sSet 3 (cBin subD (cFrz (nLst (aCons (cBin subD (cVar 1) (cD (.str s_many))) (aCons (cNeg (cD (.int 1))) aNil)))) (cFrz (nCall [0] 2 fTake (aCons (cVar 0) (aCons (cD (.int 2)) aNil)))))) sNil)
  (sSeq (sIf (cCmp ltD (cVar 2) (cD (.int 5))) (sSeq (sSet 4 (cFrz (nCall [0] 1 fSign (aCons (cVar 0) aNil))))
  (sSeq (sIf (cCmp eqD (cFrz (nCall [0] 2 fTake (aCons (cVar 0) (aCons (cD (.int 15)) aNil)))) (cD (.int 0))) (sSet 4 (cFrz (nCall [0, 4] 2 F__law_none (aCons (cVar 0) (aCons (cVar 4) aNil))))) sNil)
  (sRet (nDat (cTup (aCons (cD (.str s_hold)) (aCons (cVar 3) (aCons (cVar 4) aNil)))))))) sNil)
  (sSeq (sIf (cCmp eqD (cVar 2) (cD (.int 5))) (sRet (nDat (cTup (aCons (cD (.str s_lower)) (aCons (cVar 3) (aCons (cBin subD (cFrz (nLst (aCons (cD (.str sIn)) (aCons (cD (.str sOut)) aNil)))) (cFrz (nCall [0] 2 fTake (aCons (cVar 0) (aCons (cD (.int 2)) aNil))))) aNil)))))) sNil)
  (sSeq (sIf (cCmp ltD (cVar 2) (cD (.int 12))) (sRet (nCall [0, 1, 3] 3 F__law_take_call (aCons (cVar 0) (aCons (cVar 1) (aCons (cVar 3) aNil))))) sNil)
  (sSeq (sIf (cCmp ltD (cVar 2) (cD (.int 20))) (sRet (nCall [0, 1, 3, 2] 4 F__law_card_call (aCons (cVar 0) (aCons (cVar 1) (aCons (cVar 3) (aCons (cVar 2) aNil)))))) sNil)
  (sSeq (sIf (cCmp ltD (cVar 2) (cD (.int 22))) (sRet (nDat (cTup (aCons (cD (.str s_pass)) (aCons (cBin subD (cFrz (nLst (aCons (cD (.int 1)) (aCons (cBin addD (cD (.int 1)) (cFrz (nCall [0] 2 fTake (aCons (cVar 0) (aCons (cD (.int 3)) aNil))))) (aCons (cD (.int 1000)) (aCons (cFrz (nCall [0] 2 fTake (aCons (cVar 0) (aCons (cD (.int 1002)) aNil)))) aNil)))))) (cFrz (nCall [0] 2 fTake (aCons (cVar 0) (aCons (cD (.int 4)) aNil))))) aNil))))) sNil)
  (sSeq (sIf (cOr (cCmp eqD (cVar 2) (cD (.int 22))) (cCmp gtD (cFrz (nCall [0] 2 fTake (aCons (cVar 0) (aCons (cD (.int 6)) aNil)))) (cD (.int 0)))) (sRet (nDat (cTup (aCons (cD (.str s_back)) aNil)))) sNil)
  (sRet (nDat (cTup (aCons (cD (.str s_close)) aNil)))))))))))))
def F__law_call : Fn := runF 5 g__law_call
def g__law_number : MS := (sSeq (sSet 2 (cFrz (nComp (iSeq (cVar 0)) [3] (gN 3) (cCmp notInD (cVar 3) (cD (.str s_0123456789))) (cVar 3))))
  (sSeq (sIf (cOr (cCmp ltD (cCall lenD (aCons (cVar 0) aNil)) (cD (.int 1))) (cOr (cCmp gtD (cCall lenD (aCons (cVar 0) aNil)) (cVar 1)) (cCmp neD (cVar 2) (cFrz (nLst aNil))))) (sRet (nDat (cD .none))) sNil)
  (sRet (nDat (cIf (cAnd (cCmp eqD (cBin subD (cVar 0) (cD (.int 0))) (cD (.str s_0))) (cCmp neD (cVar 0) (cD (.str s_0)))) (cD .none) (cCall intD (aCons (cVar 0) aNil)))))))
def F__law_number : Fn := runF 4 g__law_number
end SM

end

section
set_option Elab.async false
set_option linter.all false
set_option maxRecDepth 100000
namespace K08
open PySem PySem.Spec PyProof.Rows L2 VL SM
def b__law_due_0 : MS := (sIf (cAnd (cCmp eqD (cBin subD (cVar 3) (cD (.int 2))) (cD (.str sSold))) (cAnd (cCmp inD (cVar 3) (cVar 1)) (cCmp inD (cFrz (nCall [3] 1 SM.F__law_twin (aCons (cVar 3) aNil))) (cVar 1)))) (sSeq (sRem [] (pVar 1) (cVar 3))
  (sSeq (sRem [3] (pVar 1) (cFrz (nCall [3] 1 SM.F__law_twin (aCons (cVar 3) aNil))))
  (sApp [3] (pVar 2) (nDat (cTup (aCons (cVar 3) (aCons (cFrz (nCall [3] 1 SM.F__law_twin (aCons (cVar 3) aNil))) aNil))))))) sNil)
def g__law_due : MS := (sSeq (sSetN 1 (nSort (aCons (cVar 0) aNil)))
  (sSeq (sSetN 2 (nLst aNil))
  (sSeq (sFor (iSeq (cCall sortedD (aCons (cVar 0) aNil))) (gN 3) b__law_due_0)
  (sRet (nTupT (tConsM (nMv 2) (tConsM (nMv 1) tNilM)))))))
def F__law_due : Fn := runF 4 g__law_due
def b__law_cards_0 : MS := (sSeq (sSet 4 (cFrz (nCall [0] 2 fCard (aCons (cVar 0) (aCons (cD (.int 3)) aNil)))))
  (sSeq (sSet 5 (cFrz (nCall [0] 2 fTake (aCons (cVar 0) (aCons (cD (.int 6)) aNil)))))
  (sSeq (sIf (cAnd (cCmp neD (cVar 2) (cFrz (nLst aNil))) (cCmp ltD (cVar 5) (cD (.int 4)))) (sSeq (sSet 4 (cBin subD (cVar 2) (cFrz (nCall [0] 2 fTake (aCons (cVar 0) (aCons (cCall lenD (aCons (cVar 2) aNil)) aNil))))))
  (sSeq (sIf (cCmp ltD (cVar 5) (cD (.int 2))) (sSet 4 (cFrz (nCall [4] 1 SM.F__law_twin (aCons (cVar 4) aNil)))) sNil)
  (sIf (cCmp eqD (cVar 5) (cD (.int 2))) (sSet 4 (cBin addD (cBin addD (cCut (cVar 4) oNone (oSome (cD (.int 3)))) (cTup (aCons (cBin subtD (cBin addD (cBin subD (cVar 4) (cD (.int 3))) (cD (.int 1))) (cBin mulD (cD (.int 2)) (cCall intD (aCons (cOf (cCmp gtD (cBin subD (cVar 4) (cD (.int 3))) (cD (.int 100)))) aNil)))) aNil))) (cCut (cVar 4) (oSome (cD (.int 4))) oNone))) sNil))) sNil)
  (sApp [] (pVar 2) (nDat (cVar 4))))))
def g__law_cards : MS := (sSeq (sSet 1 (cBin subD (cFrz (nLst (aCons (cFrz (nCall [0] 2 fTake (aCons (cVar 0) (aCons (cD (.int 8)) aNil)))) (aCons (cFrz (nCall [0] 2 fTake (aCons (cVar 0) (aCons (cD (.int 61)) aNil)))) (aCons (cFrz (nCall [0] 2 fTake (aCons (cVar 0) (aCons (cD (.int 401)) aNil)))) aNil))))) (cCall min2D (aCons (cD (.int 2)) (aCons (cBin fdivD (cFrz (nCall [0] 2 fTake (aCons (cVar 0) (aCons (cD (.int 5)) aNil)))) (cD (.int 2))) aNil)))))
  (sSeq (sSetN 2 (nLst aNil))
  (sSeq (sFor (iRange1 (aCons (cVar 1) aNil)) (gN 3) b__law_cards_0)
  (sRetV 2))))
def F__law_cards : Fn := runF 6 g__law_cards
def b_law_0 : MS := (sSeq (sSetN 2 (nCall [0, 1] 2 fBag (aCons (cVar 0) (aCons (cVar 1) aNil))))
  (sSeq (sSet 3 (cFrz (nCall [2] 1 F__law_cards (aCons (cVar 2) aNil))))
  (sSeq (sSet 4 (cFrz (nCall [3] 1 F__law_due (aCons (cVar 3) aNil))))
  (sSeq (sSet 5 (cCall listD (aCons (cVar 3) aNil)))
  (sSeq (sSetN 6 (nCall [5] 1 SM.F_put_together (aCons (cVar 5) aNil)))
  (sSeq (sIf (cOr (cCmp neD (cVar 6) (cVar 4)) (cOr (cCmp neD (cVar 5) (cVar 3)) (cCmp neD (cFrz (nCall [] 1 SM.F_put_together (aCons (cFrz (nCall [2, 3] 2 SM.F__law_shuffled (aCons (cVar 2) (aCons (cVar 3) aNil)))) aNil))) (cVar 4)))) (sRet (nDat (cD (.bool false)))) sNil)
  (sSeq (sApp [] (pIx [] (pVar 6) (cD (.int 0))) (nDat (cD .none)))
  (sSeq (sApp [] (pIx [] (pVar 6) (cD (.int 1))) (nDat (cD .none)))
  (sIf (cCmp neD (cFrz (nCall [5] 1 SM.F_put_together (aCons (cVar 5) aNil))) (cVar 4)) (sRet (nDat (cD (.bool false)))) sNil)))))))))
def g_law : MS := (sSeq (sFor (iRange1 (aCons (cBin addD (cD (.int 1)) (cCall min2D (aCons (cCall lenD (aCons (cVar 0) aNil)) (aCons (cD (.int 10)) aNil)))) aNil)) (gN 1) b_law_0)
  (sRet (nDat (cD (.bool true)))))
def F_law : Fn := runF 7 g_law
end K08

end

section
set_option Elab.async false
set_option linter.all false
set_option maxRecDepth 100000
set_option maxHeartbeats 0
namespace K08
open PySem PySem.Spec PyProof.Rows L2 VL SM
def topS (i : Nat) : Stmt := PySem.Challenge.pw_palmhall_k08_cards_put_together.main.body.getD i (.Pass ⟨0, 0, 0, 0⟩)
abbrev st_put_together : Stmt := topS 1
abbrev st__law_bag : Stmt := topS 6
abbrev st__law_take : Stmt := topS 7
abbrev st__law_twin : Stmt := topS 9
abbrev st__law_due : Stmt := topS 4
abbrev st__law_shuffled : Stmt := topS 5
abbrev st__law_card : Stmt := topS 8
abbrev st__law_cards : Stmt := topS 3
abbrev st_law : Stmt := topS 10
structure Ad where
  f_put_together : Addr
  d_put_together : FuncData
  f__law_bag : Addr
  d__law_bag : FuncData
  f__law_take : Addr
  d__law_take : FuncData
  f__law_twin : Addr
  d__law_twin : FuncData
  f__law_due : Addr
  d__law_due : FuncData
  f__law_shuffled : Addr
  d__law_shuffled : FuncData
  f__law_card : Addr
  d__law_card : FuncData
  f__law_cards : Addr
  d__law_cards : FuncData
  f_law : Addr
  d_law : FuncData
structure All (K : Fg) (w : World) (mg : Str → Option Value) (a : Ad) : Prop where
  F_put_together : Fun K "put_together" "put_together" st_put_together a.f_put_together a.d_put_together
  m_put_together : mg "put_together" = some (.ref a.f_put_together)
  b_put_together : Binds K a.d_put_together ["cards"] []
  F__law_bag : Fun K "_law_bag" "_law_bag" st__law_bag a.f__law_bag a.d__law_bag
  m__law_bag : mg "_law_bag" = some (.ref a.f__law_bag)
  b__law_bag : Binds K a.d__law_bag ["script", "k"] []
  F__law_take : Fun K "_law_take" "_law_take" st__law_take a.f__law_take a.d__law_take
  m__law_take : mg "_law_take" = some (.ref a.f__law_take)
  b__law_take : Binds K a.d__law_take ["bag", "many"] []
  F__law_twin : Fun K "_law_twin" "_law_twin" st__law_twin a.f__law_twin a.d__law_twin
  m__law_twin : mg "_law_twin" = some (.ref a.f__law_twin)
  b__law_twin : Binds K a.d__law_twin ["card"] []
  F__law_due : Fun K "_law_due" "_law_due" st__law_due a.f__law_due a.d__law_due
  m__law_due : mg "_law_due" = some (.ref a.f__law_due)
  b__law_due : Binds K a.d__law_due ["cards"] []
  F__law_shuffled : Fun K "_law_shuffled" "_law_shuffled" st__law_shuffled a.f__law_shuffled a.d__law_shuffled
  m__law_shuffled : mg "_law_shuffled" = some (.ref a.f__law_shuffled)
  b__law_shuffled : Binds K a.d__law_shuffled ["bag", "some"] []
  F__law_card : Fun K "_law_card" "_law_card" st__law_card a.f__law_card a.d__law_card
  m__law_card : mg "_law_card" = some (.ref a.f__law_card)
  b__law_card : Binds K a.d__law_card ["bag", "members"] []
  F__law_cards : Fun K "_law_cards" "_law_cards" st__law_cards a.f__law_cards a.d__law_cards
  m__law_cards : mg "_law_cards" = some (.ref a.f__law_cards)
  b__law_cards : Binds K a.d__law_cards ["bag"] []
  F_law : Fun K "law" "law" st_law a.f_law a.d_law
  m_law : mg "law" = some (.ref a.f_law)
  b_law : Binds K a.d_law ["script"] []
  n_int : mg "int" = none
  n_len : mg "len" = none
  n_list : mg "list" = none
  n_min : mg "min" = none
  n_range : mg "range" = none
  n_sorted : mg "sorted" = none
section
variable {P : Program} {w : World} {K : PySem.W.Frag} {mg : Str → Option Value} {base : Heap} {a : Ad}
abbrev N_put_together : List Str := ["cards", "waiting", "card", "pairs", "left", "twin"]
theorem sc_put_together : FnScope N_put_together ["cards"] (defScope st_put_together) := ⟨rfl, rfl, rfl, by decide +kernel, rfl, by decide +kernel, by decide +kernel⟩
theorem ok_put_together (A : All K w mg a) : FnOk P w K mg base CX0 1 a.f_put_together a.d_put_together ["cards"] (spV K Wx0 1 SM.F_put_together) :=
  fn_ok (k := 0) A.F_put_together sc_put_together fun cdv Ar outer s H E hr => by
   have A := A
   exact (vss_cons (vs_setN (i := 1) sc_put_together.nd (vn_dt (T := [])))
    (vss_cons (vs_for PassesOwn.never rfl (vi_seq (ve_var 0)) (vg_name (i := 2) sc_put_together.nd) (vss_one (vs_if (vt_cmp (op_eqD hr.units) ok_eqD (ve_ix (ve_var 2) ve_int) (ve_strC eBought) (nomark _)) (vss_one (vs_dput (hu1 (hu65 hr)) (ve_add (ve_dget2 (hu1 (hu65 hr)) (vp_var 1) (ve_var 2) ve_int) ve_int) (vp_var 1) (ve_var 2))) vss_nil)))
    (vss_cons (vs_setN (i := 3) sc_put_together.nd (vn_lst va_nil))
    (vss_cons (vs_setN (i := 4) sc_put_together.nd (vn_lst va_nil))
    (vss_cons (vs_for PassesOwn.never rfl (vi_seq (ve_callB (cr_sortD (hu65 hr)) ok_sortedD (by rfl) A.n_sorted (by decide +kernel) (va_cons (ve_var 0) va_nil))) (vg_name (i := 2) sc_put_together.nd) (vss_one (vs_if (vt_cmp (op_eqD hr.units) ok_eqD (ve_ix (ve_var 2) ve_int) (ve_strC eSold) (nomark _)) (vss_cons (vs_set (i := 5) sc_put_together.nd (ve_add (ve_tup (va_cons (ve_ix (ve_var 2) ve_int) (va_cons (ve_ix (ve_var 2) ve_int) (va_cons (ve_strC eBought) va_nil)))) (ve_cut (ve_var 2) (vo_some ve_int) vo_none)))
    (vss_one (vs_if (vt_cmp op_gt ok_icmp (ve_dget2 (hu1 (hu65 hr)) (vp_var 1) (ve_var 5) ve_int) ve_int (nomark _)) (vss_cons (vs_daugT (f := fun i j => i - j) (hu1 (hu65 hr)) (vp_var 1) (ve_var 5) ve_int in_sub)
    (vss_one (vs_appd (vp_var 3) (vn_dat (ve_tup (va_cons (ve_var 2) (va_cons (ve_var 5) va_nil))))))) (vss_one (vs_appd (vp_var 4) (vn_dat (ve_var 2))))))) vss_nil)))
    (vss_cons (vs_forKT 1 PassesOwn.never rfl (vg_name (i := 2) sc_put_together.nd) (vss_one (vs_extd (vp_var 4) (ve_rep (ve_frz (vn_lst (va_cons (ve_var 2) va_nil))) (ve_dget (hu1 (hu65 hr)) (vp_var 1) (ve_var 2))))))
    (vss_one (vs_ret (vn_tupT (vns_cons (vn_mv 3) (vns_cons (vn_sort (hu65 hr) (by rfl) A.n_sorted (va_cons (ve_var 4) va_nil)) vns_nil)))))))))))
abbrev N__law_bag : List Str := ["script", "k", "cell"]
theorem sc__law_bag : FnScope N__law_bag ["script", "k"] (defScope st__law_bag) := ⟨rfl, rfl, rfl, by decide +kernel, rfl, by decide +kernel, by decide +kernel⟩
theorem ok__law_bag (A : All K w mg a) : FnOk P w K mg base CX0 1 a.f__law_bag a.d__law_bag ["script", "k"] (spV K Wx0 2 fBag) :=
  fn_ok (k := 0) A.F__law_bag sc__law_bag fun cdv Ar outer s H E hr => by
   have A := A
   exact (vss_cons (vs_set (i := 2) sc__law_bag.nd ve_int)
    (vss_cons (vs_if (vt_cmp op_lt ok_icmp (ve_var 1) (ve_callB call_len ok_lenD (by rfl) A.n_len (by decide +kernel) (va_cons (ve_var 0) va_nil)) (nomark _)) (vss_one (vs_set (i := 2) sc__law_bag.nd (ve_mod (ve_ix (ve_var 0) (ve_var 1)) (ve_mul (ve_pow ve_int ve_int) (ve_pow ve_int ve_int))))) vss_nil)
    (vss_cons (vs_if (vt_cmp op_lt ok_icmp (ve_var 2) (ve_pow ve_int ve_int) (nomark _)) (vss_one (vs_ret (vn_lst (va_cons ve_int (va_cons (ve_add ve_int (ve_mod (ve_add (ve_mul (ve_var 2) ve_int) (ve_mul ve_int (ve_var 1))) ve_int)) va_nil))))) vss_nil)
    (vss_one (vs_ret (vn_lst (va_cons (ve_var 2) (va_cons (ve_add ve_int (ve_mod (ve_add (ve_var 2) (ve_var 1)) ve_int)) va_nil))))))))
abbrev N__law_take : List Str := ["bag", "many", "found"]
theorem sc__law_take : FnScope N__law_take ["bag", "many"] (defScope st__law_take) := ⟨rfl, rfl, rfl, by decide +kernel, rfl, by decide +kernel, by decide +kernel⟩
theorem ok__law_take (A : All K w mg a) : FnOk P w K mg base CX0 1 a.f__law_take a.d__law_take ["bag", "many"] (spV K Wx0 2 fTake) :=
  fn_ok (k := 0) A.F__law_take sc__law_take fun cdv Ar outer s H E hr => by
   have A := A
   exact (vss_cons (vs_if (vt_cmp op_gt ok_icmp (ve_ix (ve_var 0) ve_int) ve_int (nomark _)) (vss_cons (vs_set (i := 2) sc__law_take.nd (ve_mod (ve_ix (ve_var 0) ve_int) (ve_var 1)))
    (vss_cons (vs_setIx (ve_fdiv (ve_ix (ve_var 0) ve_int) (ve_var 1)) (vp_var 0) ve_int)
    (vss_one (vs_retV 2)))) vss_nil)
    (vss_cons (vs_setIx (ve_mod (ve_mul (ve_ix (ve_var 0) ve_int) ve_int) ve_int) (vp_var 0) ve_int)
    (vss_one (vs_ret (vn_dat (ve_mod (ve_fdiv (ve_mod (ve_mul (ve_ix (ve_var 0) ve_int) (ve_ix (ve_var 0) ve_int)) ve_int) ve_int) (ve_var 1)))))))
abbrev N__law_twin : List Str := ["card"]
theorem sc__law_twin : FnScope N__law_twin ["card"] (defScope st__law_twin) := ⟨rfl, rfl, rfl, by decide +kernel, rfl, by decide +kernel, by decide +kernel⟩
theorem ok__law_twin (A : All K w mg a) : FnOk P w K mg base CX0 1 a.f__law_twin a.d__law_twin ["card"] (spV K Wx0 1 SM.F__law_twin) :=
  fn_ok (k := 0) A.F__law_twin sc__law_twin fun cdv Ar outer s H E hr => by
   have A := A
   exact (vss_one (vs_ret (vn_dat (ve_add (ve_tup (va_cons (ve_ix (ve_var 0) ve_int) (va_cons (ve_ix (ve_var 0) ve_int) (va_cons (ve_ix (ve_frz (vn_lst (va_cons (ve_strC eBought) (va_cons (ve_strC eSold) va_nil)))) (ve_callTy call_int1 ok_intD (by rfl) A.n_int (by decide +kernel) (va_cons (ve_cmp (op_eqD hr.units) ok_eqD (ve_ix (ve_var 0) ve_int) (ve_strC eBought) (nomark _)) va_nil))) va_nil)))) (ve_cut (ve_var 0) (vo_some ve_int) vo_none)))))
abbrev N__law_due : List Str := ["cards", "left", "pairs", "card"]
theorem sc__law_due : FnScope N__law_due ["cards"] (defScope st__law_due) := ⟨rfl, rfl, rfl, by decide +kernel, rfl, by decide +kernel, by decide +kernel⟩
theorem ok__law_due (A : All K w mg a) : FnOk P w K mg base CX0 2 a.f__law_due a.d__law_due ["cards"] (spV K Wx0 1 F__law_due) :=
  fn_ok (k := 1) A.F__law_due sc__law_due fun cdv Ar outer s H E hr => by
   have A := A
   exact (vss_cons (vs_setN (i := 1) sc__law_due.nd (vn_sort (hu65 hr) (by rfl) A.n_sorted (va_cons (ve_var 0) va_nil)))
    (vss_cons (vs_setN (i := 2) sc__law_due.nd (vn_lst va_nil))
    (vss_cons (vs_for PassesOwn.never rfl (vi_seq (ve_callB (cr_sortD (hu65 hr)) ok_sortedD (by rfl) A.n_sorted (by decide +kernel) (va_cons (ve_var 0) va_nil))) (vg_name (i := 3) sc__law_due.nd) (vss_one (vs_if (vw_pt (vw_and (vt_cmp (op_eqD hr.units) ok_eqD (ve_ix (ve_var 3) ve_int) (ve_strC eSold) (nomark _)) (vw_and (vt_cmp (op_inA (hu65 hr)) ok_inD (ve_var 3) (ve_var 1) rfl) (vw_and1 (vt_cmp (op_inA (hu65 hr)) ok_inD (ve_frz (vn_call (Ts := [3]) (ok__law_twin A) (hr.mono (by decide)) rfl A.m__law_twin A.F__law_twin.kp A.b__law_twin (va_cons (ve_var 3) va_nil))) (ve_var 1) rfl))))) (vss_cons (vs_rem (hu65 hr) (vp_var 1) (ve_var 3))
    (vss_cons (vs_rem (hu65 hr) (vp_var 1) (ve_frz (vn_call (Ts := [3]) (ok__law_twin A) (hr.mono (by decide)) rfl A.m__law_twin A.F__law_twin.kp A.b__law_twin (va_cons (ve_var 3) va_nil))))
    (vss_one (vs_appd (vp_var 2) (vn_dat (ve_tup (va_cons (ve_var 3) (va_cons (ve_frz (vn_call (Ts := [3]) (ok__law_twin A) (hr.mono (by decide)) rfl A.m__law_twin A.F__law_twin.kp A.b__law_twin (va_cons (ve_var 3) va_nil))) va_nil)))))))) vss_nil)))
    (vss_one (vs_ret (vn_tupT (vns_cons (vn_mv 2) (vns_cons (vn_mv 1) vns_nil))))))))
abbrev N__law_shuffled : List Str := ["bag", "some", "found", "one"]
theorem sc__law_shuffled : FnScope N__law_shuffled ["bag", "some"] (defScope st__law_shuffled) := ⟨rfl, rfl, rfl, by decide +kernel, rfl, by decide +kernel, by decide +kernel⟩
theorem ok__law_shuffled (A : All K w mg a) : FnOk P w K mg base CX0 2 a.f__law_shuffled a.d__law_shuffled ["bag", "some"] (spV K Wx0 2 SM.F__law_shuffled) :=
  fn_ok (k := 1) A.F__law_shuffled sc__law_shuffled fun cdv Ar outer s H E hr => by
   have A := A
   exact (vss_cons (vs_setN (i := 2) sc__law_shuffled.nd (vn_lst va_nil))
    (vss_cons (vs_for PassesOwn.never rfl (vi_seq (ve_var 1)) (vg_name (i := 3) sc__law_shuffled.nd) (vss_one (vs_ins (vp_var 2) (va_cons (ve_frz (vn_call (Ts := [0]) (ok__law_take A) (hr.mono (by decide)) rfl A.m__law_take A.F__law_take.kp A.b__law_take (va_cons (ve_var 0) (va_cons (ve_add (ve_callB call_len ok_lenD (by rfl) A.n_len (by decide +kernel) (va_cons (ve_var 2) va_nil)) ve_int) va_nil)))) (va_cons (ve_var 3) va_nil)))))
    (vss_one (vs_retV 2))))
abbrev N__law_card : List Str := ["bag", "members", "writer", "other", "price", "count", "moment"]
theorem sc__law_card : FnScope N__law_card ["bag", "members"] (defScope st__law_card) := ⟨rfl, rfl, rfl, by decide +kernel, rfl, by decide +kernel, by decide +kernel⟩
theorem ok__law_card (A : All K w mg a) : FnOk P w K mg base CX0 2 a.f__law_card a.d__law_card ["bag", "members"] (spV K Wx0 2 fCard) :=
  fn_ok (k := 1) A.F__law_card sc__law_card fun cdv Ar outer s H E hr => by
   have A := A
   exact (vss_cons (vs_set (i := 2) sc__law_card.nd (ve_frz (vn_call (Ts := [0, 1]) (ok__law_take A) (hr.mono (by decide)) rfl A.m__law_take A.F__law_take.kp A.b__law_take (va_cons (ve_var 0) (va_cons (ve_var 1) va_nil)))))
    (vss_cons (vs_set (i := 3) sc__law_card.nd (ve_mod (ve_add (ve_add (ve_var 2) ve_int) (ve_frz (vn_call (Ts := [0]) (ok__law_take A) (hr.mono (by decide)) rfl A.m__law_take A.F__law_take.kp A.b__law_take (va_cons (ve_var 0) (va_cons (ve_sub (ve_var 1) ve_int) va_nil))))) (ve_var 1)))
    (vss_cons (vs_set (i := 4) sc__law_card.nd (ve_ix (ve_frz (vn_lst (va_cons (ve_add ve_int (ve_frz (vn_call (Ts := [0]) (ok__law_take A) (hr.mono (by decide)) rfl A.m__law_take A.F__law_take.kp A.b__law_take (va_cons (ve_var 0) (va_cons ve_int va_nil))))) (va_cons (ve_frz (vn_call (Ts := [0]) (ok__law_take A) (hr.mono (by decide)) rfl A.m__law_take A.F__law_take.kp A.b__law_take (va_cons (ve_var 0) (va_cons (ve_add (ve_pow ve_int ve_int) ve_int) va_nil)))) (va_cons (ve_pow ve_int ve_int) va_nil))))) (ve_ix (ve_frz (vn_lst (va_cons ve_int (va_cons ve_int (va_cons ve_int (va_cons ve_int (va_cons ve_int (va_cons ve_int va_nil)))))))) (ve_frz (vn_call (Ts := [0]) (ok__law_take A) (hr.mono (by decide)) rfl A.m__law_take A.F__law_take.kp A.b__law_take (va_cons (ve_var 0) (va_cons ve_int va_nil)))))))
    (vss_cons (vs_set (i := 5) sc__law_card.nd (ve_ix (ve_frz (vn_lst (va_cons (ve_add ve_int (ve_frz (vn_call (Ts := [0]) (ok__law_take A) (hr.mono (by decide)) rfl A.m__law_take A.F__law_take.kp A.b__law_take (va_cons (ve_var 0) (va_cons ve_int va_nil))))) (va_cons (ve_add ve_int (ve_frz (vn_call (Ts := [0]) (ok__law_take A) (hr.mono (by decide)) rfl A.m__law_take A.F__law_take.kp A.b__law_take (va_cons (ve_var 0) (va_cons (ve_pow ve_int ve_int) va_nil))))) (va_cons (ve_pow ve_int ve_int) va_nil))))) (ve_ix (ve_frz (vn_lst (va_cons ve_int (va_cons ve_int (va_cons ve_int (va_cons ve_int (va_cons ve_int (va_cons ve_int va_nil)))))))) (ve_frz (vn_call (Ts := [0]) (ok__law_take A) (hr.mono (by decide)) rfl A.m__law_take A.F__law_take.kp A.b__law_take (va_cons (ve_var 0) (va_cons ve_int va_nil)))))))
    (vss_cons (vs_set (i := 6) sc__law_card.nd (ve_ix (ve_frz (vn_lst (va_cons (ve_frz (vn_call (Ts := [0]) (ok__law_take A) (hr.mono (by decide)) rfl A.m__law_take A.F__law_take.kp A.b__law_take (va_cons (ve_var 0) (va_cons ve_int va_nil)))) (va_cons (ve_frz (vn_call (Ts := [0]) (ok__law_take A) (hr.mono (by decide)) rfl A.m__law_take A.F__law_take.kp A.b__law_take (va_cons (ve_var 0) (va_cons (ve_add (ve_pow ve_int ve_int) ve_int) va_nil)))) va_nil)))) (ve_callTy call_int1 ok_intD (by rfl) A.n_int (by decide +kernel) (va_cons (ve_cmp (op_eqD hr.units) ok_eqD (ve_frz (vn_call (Ts := [0]) (ok__law_take A) (hr.mono (by decide)) rfl A.m__law_take A.F__law_take.kp A.b__law_take (va_cons (ve_var 0) (va_cons ve_int va_nil)))) ve_int (nomark _)) va_nil))))
    (vss_one (vs_ret (vn_dat (ve_tup (va_cons (ve_var 2) (va_cons (ve_var 3) (va_cons (ve_ix (ve_frz (vn_lst (va_cons (ve_strC eBought) (va_cons (ve_strC eSold) va_nil)))) (ve_frz (vn_call (Ts := [0]) (ok__law_take A) (hr.mono (by decide)) rfl A.m__law_take A.F__law_take.kp A.b__law_take (va_cons (ve_var 0) (va_cons ve_int va_nil))))) (va_cons (ve_var 4) (va_cons (ve_var 5) (va_cons (ve_var 6) va_nil)))))))))))))))
abbrev N__law_cards : List Str := ["bag", "many", "found", "k", "card", "way"]
theorem sc__law_cards : FnScope N__law_cards ["bag"] (defScope st__law_cards) := ⟨rfl, rfl, rfl, by decide +kernel, rfl, by decide +kernel, by decide +kernel⟩
theorem ok__law_cards (A : All K w mg a) : FnOk P w K mg base CX0 3 a.f__law_cards a.d__law_cards ["bag"] (spV K Wx0 1 F__law_cards) :=
  fn_ok (k := 2) A.F__law_cards sc__law_cards fun cdv Ar outer s H E hr => by
   have A := A
   exact (vss_cons (vs_set (i := 1) sc__law_cards.nd (ve_ix (ve_frz (vn_lst (va_cons (ve_frz (vn_call (Ts := [0]) (ok__law_take A) (hr.mono (by decide)) rfl A.m__law_take A.F__law_take.kp A.b__law_take (va_cons (ve_var 0) (va_cons ve_int va_nil)))) (va_cons (ve_frz (vn_call (Ts := [0]) (ok__law_take A) (hr.mono (by decide)) rfl A.m__law_take A.F__law_take.kp A.b__law_take (va_cons (ve_var 0) (va_cons ve_int va_nil)))) (va_cons (ve_frz (vn_call (Ts := [0]) (ok__law_take A) (hr.mono (by decide)) rfl A.m__law_take A.F__law_take.kp A.b__law_take (va_cons (ve_var 0) (va_cons ve_int va_nil)))) va_nil))))) (ve_callB (call_min2 rfl) ok_min2D (by rfl) A.n_min (by decide +kernel) (va_cons ve_int (va_cons (ve_fdiv (ve_frz (vn_call (Ts := [0]) (ok__law_take A) (hr.mono (by decide)) rfl A.m__law_take A.F__law_take.kp A.b__law_take (va_cons (ve_var 0) (va_cons ve_int va_nil)))) ve_int) va_nil)))))
    (vss_cons (vs_setN (i := 2) sc__law_cards.nd (vn_lst va_nil))
    (vss_cons (vs_for PassesOwn.never rfl (vi_range1 (by rfl) A.n_range (va_cons (ve_var 1) va_nil)) (vg_name (i := 3) sc__law_cards.nd) (vss_cons (vs_set (i := 4) sc__law_cards.nd (ve_frz (vn_call (Ts := [0]) (ok__law_card A) (hr.mono (by decide)) rfl A.m__law_card A.F__law_card.kp A.b__law_card (va_cons (ve_var 0) (va_cons ve_int va_nil)))))
    (vss_cons (vs_set (i := 5) sc__law_cards.nd (ve_frz (vn_call (Ts := [0]) (ok__law_take A) (hr.mono (by decide)) rfl A.m__law_take A.F__law_take.kp A.b__law_take (va_cons (ve_var 0) (va_cons ve_int va_nil)))))
    (vss_cons (vs_if (vw_pt (vw_and (vt_cmp (op_neD hr.units) ok_neD (ve_var 2) (ve_frz (vn_lst va_nil)) (nomark _)) (vw_and1 (vt_cmp op_lt ok_icmp (ve_var 5) ve_int (nomark _))))) (vss_cons (vs_set (i := 4) sc__law_cards.nd (ve_ix (ve_var 2) (ve_frz (vn_call (Ts := [0]) (ok__law_take A) (hr.mono (by decide)) rfl A.m__law_take A.F__law_take.kp A.b__law_take (va_cons (ve_var 0) (va_cons (ve_callB call_len ok_lenD (by rfl) A.n_len (by decide +kernel) (va_cons (ve_var 2) va_nil)) va_nil))))))
    (vss_cons (vs_if (vt_cmp op_lt ok_icmp (ve_var 5) ve_int (nomark _)) (vss_one (vs_set (i := 4) sc__law_cards.nd (ve_frz (vn_call (Ts := [4]) (ok__law_twin A) (hr.mono (by decide)) rfl A.m__law_twin A.F__law_twin.kp A.b__law_twin (va_cons (ve_var 4) va_nil))))) vss_nil)
    (vss_one (vs_if (vt_cmp (op_eqD hr.units) ok_eqD (ve_var 5) ve_int (nomark _)) (vss_one (vs_set (i := 4) sc__law_cards.nd (ve_add (ve_add (ve_cut (ve_var 4) vo_none (vo_some ve_int)) (ve_tup (va_cons (ve_sub (ve_add (ve_ix (ve_var 4) ve_int) ve_int) (ve_mul ve_int (ve_callTy call_int1 ok_intD (by rfl) A.n_int (by decide +kernel) (va_cons (ve_cmp op_gt ok_icmp (ve_ix (ve_var 4) ve_int) ve_int (nomark _)) va_nil)))) va_nil))) (ve_cut (ve_var 4) (vo_some ve_int) vo_none)))) vss_nil)))) vss_nil)
    (vss_one (vs_appd (vp_var 2) (vn_dat (ve_var 4))))))))
    (vss_one (vs_retV 2)))))
abbrev N_law : List Str := ["script", "k", "bag", "cards", "due", "handed", "found"]
theorem sc_law : FnScope N_law ["script"] (defScope st_law) := ⟨rfl, rfl, rfl, by decide +kernel, rfl, by decide +kernel, by decide +kernel⟩
theorem ok_law (A : All K w mg a) : FnOk P w K mg base CX0 4 a.f_law a.d_law ["script"] (spV K Wx0 1 F_law) :=
  fn_ok (k := 3) A.F_law sc_law fun cdv Ar outer s H E hr => by
   have A := A
   exact (vss_cons (vs_for PassesOwn.never rfl (vi_range1 (by rfl) A.n_range (va_cons (ve_add ve_int (ve_callB (call_min2 rfl) ok_min2D (by rfl) A.n_min (by decide +kernel) (va_cons (ve_callB call_len ok_lenD (by rfl) A.n_len (by decide +kernel) (va_cons (ve_var 0) va_nil)) (va_cons ve_int va_nil)))) va_nil)) (vg_name (i := 1) sc_law.nd) (vss_cons (vs_setN (i := 2) sc_law.nd (vn_call (Ts := [0, 1]) (ok__law_bag A) (hr.mono (by decide)) rfl A.m__law_bag A.F__law_bag.kp A.b__law_bag (va_cons (ve_var 0) (va_cons (ve_var 1) va_nil))))
    (vss_cons (vs_set (i := 3) sc_law.nd (ve_frz (vn_call (Ts := [2]) (ok__law_cards A) (hr.mono (by decide)) rfl A.m__law_cards A.F__law_cards.kp A.b__law_cards (va_cons (ve_var 2) va_nil))))
    (vss_cons (vs_set (i := 4) sc_law.nd (ve_frz (vn_call (Ts := [3]) (ok__law_due A) (hr.mono (by decide)) rfl A.m__law_due A.F__law_due.kp A.b__law_due (va_cons (ve_var 3) va_nil))))
    (vss_cons (vs_set (i := 5) sc_law.nd (ve_callTy call_list_of ok_listD (by rfl) A.n_list (by decide +kernel) (va_cons (ve_var 3) va_nil)))
    (vss_cons (vs_setN (i := 6) sc_law.nd (vn_call (Ts := [5]) (ok_put_together A) (hr.mono (by decide)) rfl A.m_put_together A.F_put_together.kp A.b_put_together (va_cons (ve_var 5) va_nil)))
    (vss_cons (vs_if (vw_pt (vw_or (vt_cmp (op_neD hr.units) ok_neD (ve_var 6) (ve_var 4) (nomark _)) (vw_or (vt_cmp (op_neD hr.units) ok_neD (ve_var 5) (ve_var 3) (nomark _)) (vw_or1 (vt_cmp (op_neD hr.units) ok_neD (ve_frz (vn_call (Ts := []) (ok_put_together A) (hr.mono (by decide)) rfl A.m_put_together A.F_put_together.kp A.b_put_together (va_cons (ve_frz (vn_call (Ts := [2, 3]) (ok__law_shuffled A) (hr.mono (by decide)) rfl A.m__law_shuffled A.F__law_shuffled.kp A.b__law_shuffled (va_cons (ve_var 2) (va_cons (ve_var 3) va_nil)))) va_nil))) (ve_var 4) (nomark _)))))) (vss_one (vs_ret (vn_dat ve_bl))) vss_nil)
    (vss_cons (vs_appd (vp_ix (vp_var 6) ve_int) (vn_dat ve_non))
    (vss_cons (vs_appd (vp_ix (vp_var 6) ve_int) (vn_dat ve_non))
    (vss_one (vs_if (vt_cmp (op_neD hr.units) ok_neD (ve_frz (vn_call (Ts := [5]) (ok_put_together A) (hr.mono (by decide)) rfl A.m_put_together A.F_put_together.kp A.b_put_together (va_cons (ve_var 5) va_nil))) (ve_var 4) (nomark _)) (vss_one (vs_ret (vn_dat ve_bl))) vss_nil)))))))))))
    (vss_one (vs_ret (vn_dat ve_bl))))
end
end K08

end

section
set_option Elab.async false
set_option linter.all false
set_option maxRecDepth 100000
/-! cards in plain terms -/
namespace SP
open PySem PySem.Spec PyProof.Rows L2 VL SM
structure Crd where
  w : Int
  o : Int
  s : Str
  p : Int
  c : Int
  m : Int
deriving DecidableEq
def Crd.D (x : Crd) : PyData := .tuple [.int x.w, .int x.o, .str x.s, .int x.p, .int x.c, .int x.m]
def SideOk (s : Str) : Prop := s = sBought ∨ s = sSold
structure CrdOk (n : Int) (x : Crd) : Prop where
  w0 : 0 ≤ x.w
  w1 : x.w < n
  o0 : 0 ≤ x.o
  o1 : x.o < n
  wo : x.w ≠ x.o
  hd : SideOk x.s
  p0 : 0 ≤ x.p
  p1 : x.p ≤ 1000000000
  c0 : 1 ≤ x.c
  c1 : x.c ≤ 1000000
  m0 : 0 ≤ x.m
  m1 : x.m ≤ 1000000000
theorem card_inv {n : Int} {d : PyData} (h : IsCard n d) : ∃ x : Crd, d = x.D ∧ CrdOk n x := by
  obtain ⟨w0, w1, o0, o1, wo, hd, p0, p1, c0, c1, m0, m1⟩ := h
  exact ⟨⟨_, _, _, _, _, _⟩, rfl, w0, w1, o0, o1, wo, hd, p0, p1, c0, c1, m0, m1⟩
theorem canB : PyData.canLay0 (.str sBought) = true := by decide +kernel
theorem canS : PyData.canLay0 (.str sSold) = true := by decide +kernel
theorem sh_side {s : Str} (h : SideOk s) {n : Nat} : Sh n (.str s) := by
  rcases h with rfl | rfl
  · exact Sh.str canB
  · exact Sh.str canS
theorem sh_crd {x : Crd} (h : SideOk x.s) : Sh 1 x.D := Sh.tuple fun y hy => by
  simp at hy
  rcases hy with rfl | rfl | rfl | rfl | rfl | rfl <;> first | exact Sh.int | exact sh_side h
theorem bs_ne : (sBought == sSold) = false := by decide +kernel
theorem sb_ne : (sSold == sBought) = false := by decide +kernel
theorem eqv_side {s t : Str} : PyData.eqv (.str s) (.str t) = (s == t) := eqv_ss
/-! twins -/
def flip (s : Str) : Str := if s = sBought then sSold else sBought
theorem flip_ok {s : Str} : SideOk (flip s) := by
  unfold flip
  split
  · exact .inr rfl
  · exact .inl rfl
def Crd.twin (x : Crd) : Crd := ⟨x.o, x.w, flip x.s, x.p, x.c, x.m⟩
theorem twin_ok {x : Crd} (hs : SideOk x.s) {Q : Tr → List Sl → Prop} (k : ∀ outs, Q (.dat x.twin.D) outs) : okF (F__law_twin [.val x.D]) Q := by
  refine okF_run ?_
  simp only [entry, List.map_cons, List.map_nil, pinS_val]
  unfold g__law_twin
  refine okS_ret ?_
  have c3 : ∀ a b c d e f : PyData, cutL [a, b, c, d, e, f] (some 3) none = [d, e, f] := fun _ _ _ _ _ _ => rfl
  have sh := (sh_side hs (n := 1)).ok
  have shB := (Sh.str (n := 1) canB).ok
  rcases hs with h | h
  · simp [Crd.D, h, c3, shB]
    have : x.twin.D = .tuple [.int x.o, .int x.w, .str sSold, .int x.p, .int x.c, .int x.m] := by simp [Crd.twin, Crd.D, flip, h]
    rw [this] at k
    exact k _
  · have hb : ¬ sSold = sBought := by decide +kernel
    have shS := (Sh.str (n := 1) canS).ok
    simp [Crd.D, h, c3, shB, shS, hb]
    have : x.twin.D = .tuple [.int x.o, .int x.w, .str sBought, .int x.p, .int x.c, .int x.m] := by simp [Crd.twin, Crd.D, flip, h, hb]
    rw [this] at k
    exact k _
theorem CrdOk.twin {n : Int} {x : Crd} (h : CrdOk n x) : CrdOk n x.twin := ⟨h.o0, h.o1, h.w0, h.w1, fun e => h.wo e.symm, flip_ok, h.p0, h.p1, h.c0, h.c1, h.m0, h.m1⟩
/-! what belongs together, and quarrels -/
def Bel (x y : Crd) : Prop := x.w = y.o ∧ x.o = y.w ∧ x.m = y.m
instance {x y : Crd} : Decidable (Bel x y) := by unfold Bel; infer_instance
theorem Bel.symm {x y : Crd} (h : Bel x y) : Bel y x := ⟨h.2.1.symm, h.1.symm, h.2.2.symm⟩
def qL (x y : Crd) : List PyData := (if x.s = y.s then [.str s_side] else []) ++ ((if x.p = y.p then [] else [.str s_price]) ++ (if x.c = y.c then [] else [.str s_count]))
theorem qL_symm {x y : Crd} : qL x y = qL y x := by
  unfold qL
  simp only [eq_comm]
theorem belong_ok {x y : Crd} {Q : Tr → List Sl → Prop} (k : ∀ outs, Q (.dat (.bool (decide (Bel x y)))) outs) : okF (F_belong [.val x.D, .val y.D]) Q := by
  refine okF_run ?_
  simp only [entry, List.map_cons, List.map_nil, pinS_val]
  unfold g_belong
  refine okS_ret ?_
  simp [Crd.D]
  by_cases h1 : x.w = y.o
  · by_cases h2 : x.o = y.w
    · by_cases h3 : x.m = y.m
      · simp [h1, h2, h3, Bel] at k ⊢
        exact k _
      · have h3' : (x.m == y.m) = false := by simpa using h3
        simp [h1, h2, h3, h3', Bel] at k ⊢
        exact k _
    · simp [h1, h2, Bel] at k ⊢
      exact k _
  · simp [h1, Bel] at k ⊢
    exact k _
theorem quarrel_ok {x y : Crd} (hx : SideOk x.s) (hy : SideOk y.s) (hb : Bel x y) {Q : Tr → List Sl → Prop} (k : ∀ outs, Q (.dat (.tuple (qL x y))) outs) : okF (F_quarrel_of [.val x.D, .val y.D]) Q := by
  refine okF_run ?_
  simp only [entry, List.map_cons, List.map_nil, pinS_val]
  unfold g_quarrel_of
  rw [okS_seq]
  refine okS_if ?_
  simp [-okM_callN, List.replicate]
  refine okM_pure2 (belong_ok fun outs => ?_)
  simp [hb]
  rw [okS_seq]
  refine okS_setN ?_
  simp
  have sx := (sh_side hx (n := 1)).ok
  have sy := (sh_side hy (n := 1)).ok
  have step : ∀ {c : M Bool} {z : PyData} {b : Bool} {xs : List PyData} {h : MS} {P : Out → Prop}, xs.length ≤ 5 → okM (c [.val x.D, .val y.D, .own .free (tr xs)]) (fun v ρ => v = b ∧ ρ = [.val x.D, .val y.D, .own .free (tr xs)]) → okS (h [.val x.D, .val y.D, .own .free (tr (xs ++ if b then [z] else []))]) P →
      okS (sSeq (sIf c (sApp [] (pVar 2) (nDat (cD z))) sNil) h [.val x.D, .val y.D, .own .free (tr xs)]) P := by
    intro c z b xs h P hl hc k
    rw [okS_seq]
    refine okS_if (okM_mono hc ?_)
    rintro v ρ ⟨rfl, rfl⟩
    cases v with
    | true =>
      rw [if_pos rfl]
      refine app_ok (m := .free) (m' := .free) rfl rfl (by omega) (by simp) ?_
      simp
      exact k
    | false =>
      rw [if_neg Bool.false_ne_true, okS_nil, nxt_nx]
      simpa using k
  refine step (b := decide (x.s = y.s)) (xs := []) (by simp) (by simp [Crd.D, sx, sy]; rw [Bool.eq_iff_iff, beq_iff_eq, decide_eq_true_eq]) ?_
  refine step (b := !decide (x.p = y.p)) (by simp; split <;> simp) (by simp [Crd.D]; rw [Bool.eq_iff_iff, beq_iff_eq, decide_eq_true_eq]) ?_
  refine step (b := !decide (x.c = y.c)) (by simp; split <;> split <;> simp) (by simp [Crd.D]; rw [Bool.eq_iff_iff, beq_iff_eq, decide_eq_true_eq]) ?_
  refine okS_ret ?_
  have e : (([] ++ if decide (x.s = y.s) = true then [PyData.str s_side] else []) ++ (if (!decide (x.p = y.p)) = true then [PyData.str s_price] else [])) ++ (if (!decide (x.c = y.c)) = true then [PyData.str s_count] else []) = qL x y := by
    unfold qL
    by_cases h1 : x.s = y.s <;> by_cases h2 : x.p = y.p <;> by_cases h3 : x.c = y.c <;> simp [h1, h2, h3]
  rw [e]
  simp
  exact k _
theorem quarrel_ex {x y : Crd} (hb : ¬ Bel x y) {Q : Str → List Sl → Prop} (k : ∀ outs, Q s_Unlike outs) : exF (F_quarrel_of [.val x.D, .val y.D]) Q := by
  refine exF_run ?_
  simp only [entry, List.map_cons, List.map_nil, pinS_val]
  unfold g_quarrel_of
  rw [okS_seq]
  refine okS_if ?_
  simp [-okM_callN, List.replicate]
  refine okM_pure2 (belong_ok fun outs => ?_)
  simp [hb]
  exact k _
def qD (x y : Crd) : PyData := if Bel x y then .tuple (qL x y) else .none
theorem repL1 {z : PyData} {q : Prop} [Decidable q] : repL [z] (if q then 1 else 0) = if q then [z] else [] := by split <;> simp [repL]
theorem repOk1 {z : PyData} {q : Prop} [Decidable q] : repOk [z] (if q then 1 else 0) = true := by split <;> simp [repOk] <;> decide
theorem law_quarrel_ok {x y : Crd} (hx : SideOk x.s) (hy : SideOk y.s) {Q : Tr → List Sl → Prop} (k : ∀ outs, Q (.dat (qD x y)) outs) : okF (F__law_quarrel [.val x.D, .val y.D]) Q := by
  have sx := (sh_side hx (n := 1)).ok
  have sy := (sh_side hy (n := 1)).ok
  have si : ∀ a b c : Int, SeqAt.shaped (.tuple [.int a, .int b, .int c]) = true := fun a b c => (Sh.tuple (n := 0) (fun x hx => by simp at hx; rcases hx with rfl | rfl | rfl <;> exact Sh.int)).ok
  have se : ∀ a b c d e f : Int, PyData.eqv (.tuple [.int a, .int b, .int c]) (.tuple [.int d, .int e, .int f]) = decide (a = d ∧ b = e ∧ c = f) := fun a b c d e f => by
    simp [PyData.eqv, PyData.eqvAll]
    by_cases h1 : a = d <;> by_cases h2 : b = e <;> by_cases h3 : c = f <;> simp [h1, h2, h3]
  refine okF_run ?_
  simp only [entry, List.map_cons, List.map_nil, pinS_val]
  unfold g__law_quarrel
  rw [okS_seq]
  refine okS_if ?_
  simp [Crd.D, List.replicate, si, se]
  by_cases hb : Bel x y
  · have hb' : x.w = y.o ∧ x.o = y.w ∧ x.m = y.m := hb
    rw [if_pos hb']
    rw [okS_seq]
    refine okS_set ?_
    have e1 : (if (x.s == y.s) = true then (1 : Int) else 0) = if x.s = y.s then 1 else 0 := by simp
    simp [sx, sy, repL1, repOk1]
    refine ⟨by split <;> split <;> simp, ?_⟩
    refine okS_ret ?_
    simp [repL1, repOk1]
    refine ⟨by split <;> split <;> split <;> simp, ?_⟩
    have e : (if x.s = y.s then [PyData.str s_side] else []) ++ ((if x.p = y.p then [] else [PyData.str s_price]) ++ (if x.c = y.c then [] else [PyData.str s_count])) = qL x y := rfl
    unfold qD at k
    rw [if_pos hb] at k
    exact k _
  · have hb' : ¬ (x.w = y.o ∧ x.o = y.w ∧ x.m = y.m) := hb
    rw [if_neg hb']
    refine okS_ret ?_
    simp
    unfold qD at k
    rw [if_neg hb] at k
    exact k _
/-! is a card (the law's look), of what has the parts' kinds -/
def crdB (x : Crd) : Bool := decide (0 ≤ x.w ∧ x.w ≤ 11) && (decide (0 ≤ x.o ∧ x.o ≤ 11) && (!decide (x.w = x.o) && (decide (0 ≤ x.p ∧ x.p ≤ 1000000000) && (decide (1 ≤ x.c ∧ x.c ≤ 1000000) && decide (0 ≤ x.m ∧ x.m ≤ 1000000000)))))
theorem crdB_ok {x : Crd} (hs : SideOk x.s) (h : crdB x = true) : CrdOk 12 x := by
  unfold crdB at h
  simp at h
  exact ⟨by omega, by omega, by omega, by omega, h.2.2.1, hs, by omega, by omega, by omega, by omega, by omega, by omega⟩
theorem whole_int {i : Int} {Q : Tr → List Sl → Prop} (k : ∀ outs, Q (.dat (.bool true)) outs) : okF (F__law_whole [.val (.int i)]) Q := by
  refine okF_run ?_
  simp only [entry, List.map_cons, List.map_nil, pinS_val]
  unfold g__law_whole
  refine okS_ret ?_
  simp
  exact k _
theorem sh_nil2 : Sh 2 (.list []) := Sh.list fun x hx => nomatch hx
theorem law_is_card_ok {x : Crd} (hs : SideOk x.s) {Q : Tr → List Sl → Prop} (k : ∀ outs, Q (.dat (.bool (crdB x))) outs) : okF (F__law_is_card [.val x.D]) Q := by
  refine okF_run ?_
  simp only [entry, List.map_cons, List.map_nil, pinS_val]
  unfold g__law_is_card
  rw [okS_seq]
  refine okS_if ?_
  simp [Crd.D, List.replicate]
  rw [okS_seq]
  refine okS_if ?_
  rw [okM_cOr, okM_cCmp, okM_cFrz]
  have c2 : ∀ a b c d e f : PyData, cutL [a, b, c, d, e, f] none (some 2) = [a, b] := fun _ _ _ _ _ _ => rfl
  have c3 : ∀ a b c d e f : PyData, cutL [a, b, c, d, e, f] (some 3) none = [d, e, f] := fun _ _ _ _ _ _ => rfl
  refine okM_compM (D := PyData.int) (ds := [x.w, x.o, x.p, x.c, x.m]) (fun _ => false) (fun i => .int i) (okM_of ?_) (by simp) rfl rfl (fun i hi => okM_of ?_) (fun i hi h => by cases h) ?_
  · simp [c2, c3]
  · simp [-okM_callN]
    refine okM_pure1 (whole_int fun outs => ?_)
    simp
  · simp [sh_nil2.ok, eqv_self sh_nil2.ok]
    rw [okS_seq]
    refine okS_asg ?_
    simp
    rw [okS_seq]
    refine okS_if ?_
    have sx := (sh_side hs (n := 1)).ok
    have sl : SeqAt.shaped (.list [.str sBought, .str sSold]) = true := by decide +kernel
    have inl : ([PyData.str sBought, .str sSold].any fun z => PyData.eqv z (.str x.s)) = true := by
      rcases hs with h | h <;> rw [h] <;> decide +kernel
    have inl' : (sBought == x.s || sSold == x.s) = true := by
      rcases hs with h | h <;> rw [h] <;> decide +kernel
    have inl2 : sBought = x.s ∨ sSold = x.s := by
      rcases hs with h | h
      · exact .inl h.symm
      · exact .inr h.symm
    simp [sx, sl]
    have no : crdB x = false → ∀ {outs}, Q (.dat (.bool false)) outs := fun e outs => by
      have := k outs
      rwa [e] at this
    repeat' split
    all_goals refine okS_ret ?_
    all_goals simp
    all_goals first
      | exact no (by simp [crdB]; omega)
      | skip
    · rename_i h1 h2 h3 h4 h5
      have e : crdB x = (decide (0 ≤ x.p ∧ x.p ≤ 1000000000) && (decide (1 ≤ x.c ∧ x.c ≤ 1000000) && decide (0 ≤ x.m ∧ x.m ≤ 1000000000))) := by
        simp [crdB, h1, h2, h3, h4, h5]
      rw [e] at k
      by_cases p0 : 0 ≤ x.p <;> by_cases p1 : x.p ≤ 1000000000 <;> by_cases c0 : 1 ≤ x.c <;> by_cases c1 : x.c ≤ 1000000 <;> by_cases m0 : 0 ≤ x.m <;> simp [p0, p1, c0, c1, m0] at k ⊢ <;> exact k _
end SP

end

section
set_option Elab.async false
set_option linter.all false
set_option maxRecDepth 100000
namespace VL
open PySem PySem.Spec PyProof.Rows L2
section
variable {ρ : Rho}
@[simp] theorem okM_nMv {i : Nat} {Q : Tr → Rho → Prop} : okM (nMv i ρ) Q ↔ okO (match ρ[i]? with
  | some (.own .free t) => some t
  | _ => none) fun t => Q t (ρ.set i (.own .free .hole)) := by
  unfold nMv
  cases h : ρ[i]? with
  | none => simp
  | some s =>
    cases s with
    | own m t => cases m <;> simp
    | _ => simp
def flatAt (ρ : Rho) (r : Nat × List Nat) : Option (List PyData) := match treeAt ρ r with
  | some (.lst ts) => flat ts
  | _ => none
@[simp] theorem okM_cCutP {Ts : List Nat} {f : M (Nat × List Nat)} {fl fh : M (Option Int)} {Q : Rv → Rho → Prop} : okM (cCutP Ts f fl fh ρ) Q ↔ okM (f ρ) fun r ρ1 => okM (fl ρ1) fun lo ρ2 => okM (fh ρ2) fun hi ρ3 => Ts.contains r.1 = false ∧ okO (flatAt ρ3 r) fun ds => okO (cutD (.list ds) lo hi) fun z => Q (.d z) ρ3 := by
  unfold cCutP
  simp only [okM_bnd]
  have e : ∀ (r : Nat × List Nat) (lo hi : Option Int) (ρ3 : Rho), okM (cutP1 Ts r lo hi ρ3) Q ↔ Ts.contains r.1 = false ∧ okO (flatAt ρ3 r) fun ds => okO (cutD (.list ds) lo hi) fun z => Q (.d z) ρ3 := fun r lo hi ρ3 => by
    unfold cutP1 flatAt
    by_cases h : Ts.contains r.1 = true
    · rw [if_pos h, h]; simp
    · rw [if_neg h]
      have h' : Ts.contains r.1 = false := by simpa using h
      rw [h']
      simp only [true_and]
      cases hq : treeAt ρ3 r with
      | none => simp
      | some t =>
        cases t with
        | lst ts =>
          simp only
          cases q : flat ts with
          | none => simp
          | some ds =>
            simp only [okO_some]
            cases hz : cutD (.list ds) lo hi <;> simp
        | _ => simp
  simp only [e]
@[simp] theorem okM_cIsiP {B : BT} {f : M (Nat × List Nat)} {Q : Rv → Rho → Prop} : okM (cIsiP B f ρ) Q ↔ okM (f ρ) fun r ρ1 => okO ((treeAt ρ1 r).bind Tr.toD) fun d => okO (isiD B d) fun b => Q (.d (.bool b)) ρ1 := by
  unfold cIsiP
  rw [okM_bnd]
  refine okM_congr fun r ρ1 => ?_
  cases (treeAt ρ1 r).bind Tr.toD with
  | none => simp
  | some d => cases h : isiD B d <;> simp [h]
theorem okS_fg {i : Nat} {g : MS} {P : Out → Prop} (h : okR (fgSl ρ i) fun ρ1 => okS (g ρ1) P) : okS (sFg i g ρ) P := by
  obtain ⟨ρ1, e, p⟩ := h
  unfold sFg
  rw [e]
  exact p
theorem fgSl_eq {i : Nat} {s : Sl} (hi : ρ[i]? = some s) (h : frB (some s) = true) : fgSl ρ i = some (ρ.set i .no) := by
  unfold fgSl
  rw [hi]
  cases s with
  | no => rfl
  | val d => rfl
  | al j p => rfl
  | own m t => cases m <;> first | rfl | cases h
end
theorem ext_ok {ρ : Rho} {P : Out → Prop} {T2 : List Nat} {i : Nat} {m m' : Md} {xs : List PyData} {fe : M Rv} (hi : ρ[i]? = some (.own m (tr xs))) (hT : T2.contains i = false) (hm : m'.ow = true)
    (he : okM (fe ρ) fun r ρ1 => ∃ ds, r = .d (.list ds) ∧ ρ1[i]? = some (.own m' (tr xs)) ∧ xs.length + ds.length ≤ 16777216 ∧ P (.nx (ρ1.set i (.own m' (tr (xs ++ ds)))))) : okS (sExt T2 (pVar i) fe ρ) P := by
  refine okS_ext ?_
  rw [okM_pVar, hi]
  simp only [okO_some]
  refine ⟨by rw [treeAt_eq, hi]; simp only [at_tr, isLst_l], ?_⟩
  refine okM_mono he ?_
  rintro r ρ1 ⟨ds, rfl, h1, hl, k⟩
  refine ⟨⟨hT, ?_⟩, xs.map .dat, ds, ?_, rfl, ?_, ?_⟩
  · rw [modeOk_eq, h1]
    cases m' <;> first | rfl | cases hm
  · rw [treeAt_eq, h1]; exact at_tr
  · rw [List.length_map]; exact small_of (by omega)
  · rw [putAt_eq, h1]
    simp only [put_nil]
    have e : xs.map Tr.dat ++ ds.map .dat = (xs ++ ds).map .dat := by simp
    rw [e]
    exact k
/-- name.pop(0) -/
theorem pop_ok {ρ : Rho} {i : Nat} {T2 : List Nat} {g : M (List Rv)} {m : Md} {ds : List PyData} {d : PyData} {Q : Rv → Rho → Prop} (hi : ρ[i]? = some (.own m (tr (d :: ds)))) (hm : m.ow = true) (hT : T2.contains i = false) (hg : g ρ = some (.ok [.d (.int 0)] ρ))
    (k : Q (.d d) (ρ.set i (.own m (tr ds)))) : okM (cPop i T2 g ρ) Q := okM_pop (ds := d :: ds) hi hm hT hg rfl k
end VL

end

section
set_option Elab.async false
set_option linter.all false
set_option maxRecDepth 100000
/-! plain: cards put together -/
namespace SP
open PySem PySem.Spec PyProof.Rows L2 VL SM
/-! ### cards in their order -/
def cle (a b : Crd) : Bool := PySem.W.dataLe false id a.D b.D
def sortC (cs : List Crd) : List Crd := cs.mergeSort cle
theorem sortC_D {cs : List Crd} : sortL (cs.map Crd.D) = (sortC cs).map Crd.D := by
  unfold sortL sortC
  exact (List.map_mergeSort (r := cle) (s := PySem.W.dataLe false id) (f := Crd.D) (l := cs) (fun a _ b _ => rfl)).symm
theorem sortC_perm {cs : List Crd} : (sortC cs).Perm cs := List.mergeSort_perm _ _
def ctoks (x : Crd) : List (Int ⊕ List Nat) := [.inl 1, .inl x.w, .inl 1, .inl x.o, .inl 1, .inr x.s.cps.toList, .inl 1, .inl x.p, .inl 1, .inl x.c, .inl 1, .inl x.m, .inl 0]
theorem ctoks_eq {x : Crd} : PySem.W.keyToks x.D = ctoks x := by simp [Crd.D, PySem.W.keyToks, PySem.W.keyToksAll, ctoks]
theorem cle_anti {a b : Crd} (h : cle a b = true) (h' : cle b a = true) : a = b := by
  have e1 : PyProof.Rows.lexLt PyProof.Rows.itemOrd (ctoks b) (ctoks a) = false := by
    have : (!PyProof.Rows.lexLt PyProof.Rows.itemOrd (PySem.W.keyToks b.D) (PySem.W.keyToks a.D)) = true := h
    rw [ctoks_eq, ctoks_eq] at this
    simpa using this
  have e2 : PyProof.Rows.lexLt PyProof.Rows.itemOrd (ctoks a) (ctoks b) = false := by
    have : (!PyProof.Rows.lexLt PyProof.Rows.itemOrd (PySem.W.keyToks a.D) (PySem.W.keyToks b.D)) = true := h'
    rw [ctoks_eq, ctoks_eq] at this
    simpa using this
  have e : ctoks a = ctoks b := PyProof.Rows.lex_total (O := PyProof.Rows.itemOrd) _ _ e2 e1
  obtain ⟨w, o, s, p, c, m⟩ := a
  obtain ⟨w', o', s', p', c', m'⟩ := b
  simp only [ctoks, List.cons.injEq, Sum.inl.injEq, Sum.inr.injEq, true_and, and_true] at e
  obtain ⟨r1, r2, r3, r4, r5, r6⟩ := e
  have r3' : s = s' := by
    obtain ⟨⟨s⟩⟩ := s
    obtain ⟨⟨s'⟩⟩ := s'
    simp at r3
    simp [r3]
  simp [r1, r2, r3', r4, r5, r6]
theorem sortC_pw {cs : List Crd} : (sortC cs).Pairwise fun a b => cle a b = true := PySem.W.sort_pairwise (le := cle) ⟨fun a b c h1 h2 => (PySem.W.sortLe_total (PyProof.Rows.listOrd PyProof.Rows.itemOrd) false fun d : PyData => PySem.W.keyToks d).trans a.D b.D c.D h1 h2, fun a b => (PySem.W.sortLe_total (PyProof.Rows.listOrd PyProof.Rows.itemOrd) false fun d : PyData => PySem.W.keyToks d).total a.D b.D⟩ cs
theorem sortC_congr {rs qs : List Crd} (h : rs.Perm qs) : sortC rs = sortC qs :=
  List.Perm.eq_of_pairwise (fun a b _ _ => cle_anti) sortC_pw sortC_pw (sortC_perm.trans (h.trans sortC_perm.symm))
theorem sortC_uniq {rs qs : List Crd} (h : rs.Perm qs) (hp : rs.Pairwise fun a b => cle a b = true) : sortC qs = rs :=
  List.Perm.eq_of_pairwise (fun a b _ _ => cle_anti) sortC_pw hp (sortC_perm.trans h.symm)
theorem crd_sortOk {cs : List Crd} (hs : ∀ x ∈ cs, SideOk x.s) : sortOk (cs.map Crd.D) = true := by
  unfold sortOk
  simp only [Bool.and_eq_true, Bool.or_eq_true, List.all_eq_true, List.mem_map]
  refine ⟨⟨⟨?_, .inl ?_⟩, ?_⟩, ?_⟩
  · rintro d ⟨r, _, rfl⟩ e ⟨q, _, rfl⟩
    simp [Crd.D, PySem.W.alike, PySem.W.alikeAll]
  · rintro d ⟨r, _, rfl⟩
    rfl
  · rintro d ⟨r, _, rfl⟩
    simp [Crd.D, PyData.depth, PyData.depthAll]
  · rintro d ⟨r, hr, rfl⟩
    exact (sh_crd (hs r hr)).c
theorem crd_eqv {x y : Crd} : PyData.eqv x.D y.D = decide (x = y) := by
  obtain ⟨w, o, s, p, c, m⟩ := x
  obtain ⟨w', o', s', p', c', m'⟩ := y
  rw [Bool.eq_iff_iff]
  simp [Crd.D, PyData.eqv, PyData.eqvAll]
theorem crd_inj {x y : Crd} (h : x.D = y.D) : x = y := by
  obtain ⟨w, o, s, p, c, m⟩ := x
  obtain ⟨w', o', s', p', c', m'⟩ := y
  simp [Crd.D] at h
  simp [h]
/-! ### the dict of those that wait -/
abbrev Wt := List (Crd × Nat)
def cnt (wt : Wt) (x : Crd) : Nat := ((wt.find? fun e => decide (e.1 = x)).map (·.2)).getD 0
def putW (wt : Wt) (x : Crd) (n : Nat) : Wt := if (wt.any fun e => decide (e.1 = x)) = true then wt.map (fun e => if e.1 = x then (e.1, n) else e) else wt ++ [(x, n)]
theorem cnt_nil {y : Crd} : cnt [] y = 0 := rfl
theorem cnt_cons {e : Crd × Nat} {wt : Wt} {y : Crd} : cnt (e :: wt) y = if e.1 = y then e.2 else cnt wt y := by
  unfold cnt
  rw [List.find?_cons]
  by_cases h : e.1 = y <;> simp [h]
theorem cnt_app {wt us : Wt} {y : Crd} (h : ∀ e ∈ wt, e.1 ≠ y) : cnt (wt ++ us) y = cnt us y := by
  induction wt with
  | nil => rfl
  | cons e wt ih =>
    rw [List.cons_append, cnt_cons, if_neg (h e List.mem_cons_self)]
    exact ih fun z hz => h z (List.mem_cons_of_mem _ hz)
theorem cnt_app2 {wt us : Wt} {y : Crd} (h : ∃ e ∈ wt, e.1 = y) : cnt (wt ++ us) y = cnt wt y := by
  induction wt with
  | nil => obtain ⟨e, he, _⟩ := h; cases he
  | cons e wt ih =>
    rw [List.cons_append, cnt_cons, cnt_cons]
    by_cases hy : e.1 = y
    · rw [if_pos hy, if_pos hy]
    · rw [if_neg hy, if_neg hy]
      obtain ⟨z, hz, hzy⟩ := h
      rcases List.mem_cons.mp hz with q | q
      · exact absurd (q ▸ hzy) hy
      · exact ih ⟨z, q, hzy⟩
theorem cnt_none {wt : Wt} {y : Crd} (h : ∀ e ∈ wt, e.1 ≠ y) : cnt wt y = 0 := by
  have := cnt_app (us := []) h
  rw [List.append_nil] at this
  rw [this, cnt_nil]
theorem cnt_put {wt : Wt} {x y : Crd} {n : Nat} : cnt (putW wt x n) y = if y = x then n else cnt wt y := by
  unfold putW
  split
  · rename_i h
    obtain ⟨e, he, hx⟩ := List.any_eq_true.mp h
    have hx := of_decide_eq_true hx
    clear h
    induction wt with
    | nil => cases he
    | cons z wt ih =>
      rw [List.map_cons, cnt_cons, cnt_cons]
      by_cases hzx : z.1 = x
      · rw [if_pos hzx]
        simp only
        by_cases hy : z.1 = y
        · rw [if_pos hy, if_pos (by rw [← hy, hzx])]
        · rw [if_neg hy, if_neg fun q => hy (by rw [hzx, q]), if_neg hy]
          clear ih he
          induction wt with
          | nil => rfl
          | cons u wt ih =>
            rw [List.map_cons, cnt_cons, cnt_cons, ih]
            by_cases hux : u.1 = x
            · rw [if_pos hux]
              simp only
              have : ¬ u.1 = y := fun q => hy (by rw [hzx, ← hux, q])
              rw [if_neg this, if_neg this]
            · rw [if_neg hux]
      · rw [if_neg hzx]
        rcases List.mem_cons.mp he with q | q
        · exact absurd (q ▸ hx) hzx
        · rw [ih q]
          by_cases hzy : z.1 = y
          · rw [if_pos hzy, if_pos hzy, if_neg fun q => hzx (by rw [hzy, q])]
          · rw [if_neg hzy, if_neg hzy]
  · rename_i h
    have hn : ∀ e ∈ wt, e.1 ≠ x := fun e he q => h (List.any_eq_true.mpr ⟨e, he, decide_eq_true q⟩)
    by_cases hy : y = x
    · subst hy
      rw [if_pos rfl, cnt_app hn, cnt_cons, if_pos rfl]
    · rw [if_neg hy]
      by_cases hex : ∃ e ∈ wt, e.1 = y
      · rw [cnt_app2 hex]
      · have hn2 : ∀ e ∈ wt, e.1 ≠ y := fun e he q => hex ⟨e, he, q⟩
        rw [cnt_app hn2, cnt_cons, if_neg fun q => hy q.symm, cnt_nil, cnt_none hn2]
def keysW (wt : Wt) : List Crd := wt.map (·.1)
theorem keys_put {wt : Wt} {x : Crd} {n : Nat} (h : (keysW wt).Nodup) : (keysW (putW wt x n)).Nodup := by
  unfold putW
  split
  · have e : keysW (wt.map fun e => if e.1 = x then (e.1, n) else e) = keysW wt := by
      unfold keysW
      rw [List.map_map]
      apply List.map_congr_left
      intro e _
      simp only [Function.comp]
      split <;> rfl
    rw [e]
    exact h
  · rename_i hx
    unfold keysW
    rw [List.map_append, List.nodup_append]
    refine ⟨h, by simp, fun a ha b hb => ?_⟩
    obtain ⟨e, he, rfl⟩ := List.mem_map.mp ha
    simp at hb
    subst hb
    exact fun q => hx (List.any_eq_true.mpr ⟨e, he, decide_eq_true q⟩)
theorem len_put {wt : Wt} {x : Crd} {n : Nat} : (putW wt x n).length ≤ wt.length + 1 := by
  unfold putW
  split <;> simp
def expand (wt : Wt) : List Crd := wt.flatMap fun e => List.replicate e.2 e.1
theorem expand_count {y : Crd} : ∀ {wt : Wt}, (keysW wt).Nodup → (expand wt).count y = cnt wt y
  | [], _ => rfl
  | e :: wt, h => by
    have h' := List.nodup_cons.mp (show (e.1 :: keysW wt).Nodup from h)
    have ih := expand_count (y := y) h'.2
    have ex : expand (e :: wt) = List.replicate e.2 e.1 ++ expand wt := by simp [expand]
    rw [ex, List.count_append, cnt_cons, List.count_replicate, ih]
    by_cases hy : e.1 = y
    · have : cnt wt y = 0 := cnt_none fun z hz q => h'.1 (by rw [hy, ← q]; exact List.mem_map_of_mem (f := (·.1)) hz)
      simp [hy, this]
    · simp [hy]
/-! ### one by one, and by the dict -/
def tgStep (t : Wt × List (Crd × Crd) × List Crd) (x : Crd) : Wt × List (Crd × Crd) × List Crd :=
  if x.s = sSold then (if 0 < cnt t.1 x.twin then (putW t.1 x.twin (cnt t.1 x.twin - 1), t.2.1 ++ [(x, x.twin)], t.2.2) else (t.1, t.2.1, t.2.2 ++ [x])) else t
def lwStep (t : List Crd × List (Crd × Crd)) (x : Crd) : List Crd × List (Crd × Crd) :=
  if x.s = sSold ∧ x ∈ t.1 ∧ x.twin ∈ t.1 then ((t.1.erase x).erase x.twin, t.2 ++ [(x, x.twin)]) else t
def soldB (x : Crd) : Bool := decide (x.s = sSold)
theorem sold_bought : ¬ sSold = sBought := by decide +kernel
theorem twin_side {x : Crd} (h : x.s = sSold) : x.twin.s = sBought := by
  show flip x.s = sBought
  unfold flip
  rw [h, if_neg sold_bought]
theorem sim : ∀ (R : List Crd) (wt : Wt) (pairs : List (Crd × Crd)) (left L : List Crd), (keysW wt).Nodup → (∀ y, L.count y = (R.filter soldB).count y + left.count y + cnt wt y) → (∀ y ∈ left, y.s = sSold) → (∀ y, 0 < cnt wt y → y.s = sBought) →
    (R.foldl lwStep (L, pairs)).2 = (R.foldl tgStep (wt, pairs, left)).2.1 ∧ (∀ y, (R.foldl lwStep (L, pairs)).1.count y = (R.foldl tgStep (wt, pairs, left)).2.2.count y + cnt (R.foldl tgStep (wt, pairs, left)).1 y) ∧ (keysW (R.foldl tgStep (wt, pairs, left)).1).Nodup ∧ (R.foldl lwStep (L, pairs)).1.Sublist L
  | [], wt, pairs, left, L, hk, hc, _, _ => ⟨rfl, fun y => by have := hc y; simpa using this, hk, List.Sublist.refl _⟩
  | x :: R, wt, pairs, left, L, hk, hc, hl, hb => by
    rw [List.foldl_cons, List.foldl_cons]
    by_cases hx : x.s = sSold
    · have hxb : soldB x = true := decide_eq_true hx
      have htw := twin_side hx
      have hne : x ≠ x.twin := fun q => sold_bought (by rw [← hx, ← htw, ← q])
      have hc' : ∀ y, L.count y = (if x = y then 1 else 0) + (R.filter soldB).count y + left.count y + cnt wt y := fun y => by
        have := hc y
        rw [List.filter_cons, if_pos hxb, List.count_cons] at this
        rw [this]
        by_cases h : x = y <;> simp [h] <;> omega
      have xL : x ∈ L := List.count_pos_iff.mp (by rw [hc' x, if_pos rfl]; omega)
      have t1 : (R.filter soldB).count x.twin = 0 := by
        rw [List.count_eq_zero]
        intro q
        have := of_decide_eq_true (List.mem_filter.mp q).2
        rw [htw] at this
        exact sold_bought this.symm
      have t2 : left.count x.twin = 0 := by
        rw [List.count_eq_zero]
        intro q
        have := hl _ q
        rw [htw] at this
        exact sold_bought this.symm
      have tL : x.twin ∈ L ↔ 0 < cnt wt x.twin := by
        rw [← List.count_pos_iff, hc' x.twin, if_neg hne, t1, t2]
        omega
      by_cases ht : 0 < cnt wt x.twin
      · have e1 : lwStep (L, pairs) x = ((L.erase x).erase x.twin, pairs ++ [(x, x.twin)]) := by unfold lwStep; rw [if_pos ⟨hx, xL, tL.mpr ht⟩]
        have e2 : tgStep (wt, pairs, left) x = (putW wt x.twin (cnt wt x.twin - 1), pairs ++ [(x, x.twin)], left) := by unfold tgStep; rw [if_pos hx, if_pos ht]
        rw [e1, e2]
        obtain ⟨r1, r2, r3, r4⟩ := sim R (putW wt x.twin (cnt wt x.twin - 1)) (pairs ++ [(x, x.twin)]) left ((L.erase x).erase x.twin) (keys_put hk) (fun y => by
          rw [List.count_erase, List.count_erase, hc' y, cnt_put]
          by_cases h1 : x = y
          · subst h1
            simp [hne, Ne.symm hne]
            omega
          · by_cases h2 : y = x.twin
            · subst h2
              simp [h1]
              omega
            · have h2' : ¬ x.twin = y := fun q => h2 q.symm
              simp [h1, h2, h2']) hl (fun y hy => by
          rw [cnt_put] at hy
          by_cases h2 : y = x.twin
          · rw [h2]; exact htw
          · rw [if_neg h2] at hy; exact hb y hy)
        exact ⟨r1, r2, r3, r4.trans ((List.erase_sublist ..).trans (List.erase_sublist ..))⟩
      · have e1 : lwStep (L, pairs) x = (L, pairs) := by unfold lwStep; rw [if_neg fun q => ht (tL.mp q.2.2)]
        have e2 : tgStep (wt, pairs, left) x = (wt, pairs, left ++ [x]) := by unfold tgStep; rw [if_pos hx, if_neg ht]
        rw [e1, e2]
        exact sim R wt pairs (left ++ [x]) L hk (fun y => by
          rw [hc' y, List.count_append, List.count_singleton]
          by_cases h1 : x = y <;> simp [h1] <;> omega) (fun y hy => by
          rcases List.mem_append.mp hy with q | q
          · exact hl y q
          · rw [List.mem_singleton.mp q]; exact hx) hb
    · have hxb : ¬ soldB x = true := fun q => hx (of_decide_eq_true q)
      have e1 : lwStep (L, pairs) x = (L, pairs) := by unfold lwStep; rw [if_neg fun q => hx q.1]
      have e2 : tgStep (wt, pairs, left) x = (wt, pairs, left) := by unfold tgStep; rw [if_neg hx]
      rw [e1, e2]
      exact sim R wt pairs left L hk (fun y => by have := hc y; rw [List.filter_cons, if_neg hxb] at this; exact this) hl hb
def wait (cs : List Crd) : Wt := cs.foldl (fun wt x => if x.s = sBought then putW wt x (cnt wt x + 1) else wt) []
def together (cs : List Crd) : Wt × List (Crd × Crd) × List Crd := (sortC cs).foldl tgStep (wait cs, [], [])
def due (cs : List Crd) : List Crd × List (Crd × Crd) := (sortC cs).foldl lwStep (sortC cs, [])
theorem wait_ok : ∀ (cs : List Crd) (wt : Wt), (keysW wt).Nodup → (keysW (cs.foldl (fun wt x => if x.s = sBought then putW wt x (cnt wt x + 1) else wt) wt)).Nodup ∧ ∀ y, cnt (cs.foldl (fun wt x => if x.s = sBought then putW wt x (cnt wt x + 1) else wt) wt) y = cnt wt y + (cs.filter fun x => decide (x.s = sBought)).count y
  | [], wt, h => ⟨h, fun y => by simp⟩
  | x :: cs, wt, h => by
    rw [List.foldl_cons]
    by_cases hx : x.s = sBought
    · rw [if_pos hx]
      obtain ⟨a, b⟩ := wait_ok cs (putW wt x (cnt wt x + 1)) (keys_put h)
      refine ⟨a, fun y => ?_⟩
      rw [b y, cnt_put, List.filter_cons, if_pos (decide_eq_true hx), List.count_cons]
      by_cases hy : y = x
      · subst hy; simp; omega
      · have : ¬ x = y := fun q => hy q.symm
        simp [hy, this]
    · rw [if_neg hx]
      obtain ⟨a, b⟩ := wait_ok cs wt h
      refine ⟨a, fun y => ?_⟩
      rw [b y, List.filter_cons, if_neg (by simpa using hx)]
/-- both ways tell the same -/
theorem together_due {cs : List Crd} (hs : ∀ x ∈ cs, SideOk x.s) : (due cs).2 = (together cs).2.1 ∧ sortC ((together cs).2.2 ++ expand (together cs).1) = (due cs).1 ∧ (keysW (together cs).1).Nodup ∧ (due cs).1.Sublist (sortC cs) := by
  obtain ⟨w1, w2⟩ := wait_ok cs [] (by exact List.nodup_nil)
  have hw : ∀ y, cnt (wait cs) y = (cs.filter fun x => decide (x.s = sBought)).count y := fun y => by rw [show cnt (wait cs) y = _ from w2 y, cnt_nil, Nat.zero_add]
  have side : ∀ y ∈ cs, (y.s = sBought ∧ ¬ y.s = sSold) ∨ (y.s = sSold ∧ ¬ y.s = sBought) := fun y hy => by
    rcases hs y hy with q | q
    · exact .inl ⟨q, fun z => sold_bought (by rw [← z, q])⟩
    · exact .inr ⟨q, fun z => sold_bought (by rw [← z, q])⟩
  obtain ⟨r1, r2, r3, r4⟩ := sim (sortC cs) (wait cs) [] [] (sortC cs) w1 (fun y => by
    rw [hw y, List.count_nil, Nat.add_zero]
    have p1 : (sortC cs).count y = cs.count y := sortC_perm.count_eq y
    have p2 : ((sortC cs).filter soldB).count y = (cs.filter soldB).count y := (sortC_perm.filter soldB).count_eq y
    rw [p1, p2]
    clear hw w1 w2 p1 p2 hs
    induction cs with
    | nil => rfl
    | cons x cs ih =>
      have ih := ih fun z hz => side z (List.mem_cons_of_mem _ hz)
      rw [List.count_cons, ih, List.filter_cons, List.filter_cons]
      rcases side x List.mem_cons_self with ⟨q1, q2⟩ | ⟨q1, q2⟩
      · have e1 : soldB x = false := decide_eq_false q2
        have e2 : decide (x.s = sBought) = true := decide_eq_true q1
        rw [e1, e2]
        simp only [if_true, Bool.false_eq_true, if_false, List.count_cons]
        omega
      · have e1 : soldB x = true := decide_eq_true q1
        have e2 : decide (x.s = sBought) = false := decide_eq_false q2
        rw [e1, e2]
        simp only [if_true, Bool.false_eq_true, if_false, List.count_cons]
        omega) (fun y h => nomatch h) (fun y hy => by
    rw [hw y] at hy
    exact of_decide_eq_true (List.mem_filter.mp (List.count_pos_iff.mp hy)).2)
  refine ⟨r1, sortC_uniq (List.perm_iff_count.mpr fun y => ?_) (sortC_pw.sublist r4), r3, r4⟩
  rw [show (due cs).1.count y = _ from r2 y, List.count_append]
  have := expand_count (y := y) r3
  rw [← this]
  rfl
end SP

end

section
set_option Elab.async false
set_option linter.all false
set_option maxRecDepth 100000
namespace VL
open PySem PySem.Spec PyProof.Rows L2
section
variable {ρ : Rho} {P : Out → Prop}
@[simp] theorem okM_nSort {fs : M (List Rv)} {Q : Tr → Rho → Prop} : okM (nSort fs ρ) Q ↔ okM (fs ρ) fun rs ρ1 => okO (match derSs ρ1 rs with
  | some [.list ds] => if sortOk ds then some (Tr.lst ((sortL ds).map .dat)) else none
  | _ => none) fun t => Q t ρ1 := by
  unfold nSort
  rw [okM_bnd]
  refine okM_congr fun rs ρ1 => ?_
  cases h : derSs ρ1 rs with
  | none => simp
  | some ds =>
    match ds with
    | [] => simp
    | [.list ds] =>
      by_cases hz : sortOk ds = true <;> simp [hz]
    | [.none] => simp
    | [.bool _] => simp
    | [.int _] => simp
    | [.str _] => simp
    | [.tuple _] => simp
    | [.dict _] => simp
    | _ :: _ :: _ => simp
theorem okS_forKT {i : Nat} {G : MG} {g : MS} {m : Md} {far : List (List Key × PyData)} (hi : ρ[i]? = some (.own m (.dt (toT far)))) (hm : m.ow = true) (hd : dats (toT far) = some far)
    (h : okS (loopF G g (far.map fun kv => keyTD kv.1) (ρ.set i (.own .lock (.ft far)))) fun o => ∃ ρ2, o = .nx ρ2 ∧ P (.nx (ρ2.set i (.own m (.dt (toT far)))))) : okS (sForKT i G g ρ) P := by
  obtain ⟨o, e, ρ2, rfl, p⟩ := h
  have hl : lockT ρ i = some (.own m (.dt (toT far)), far) := by
    unfold lockT
    rw [modeOk_eq, hi]
    simp only [hm, if_true, hd]
  refine ⟨_, ?_, p⟩
  unfold sForKT
  rw [hl]
  simp only [e]
end
end VL
namespace SP
open PySem PySem.Spec PyProof.Rows L2 VL SM
def Crd.K (x : Crd) : List Key := [.inl x.w, .inl x.o, .inr x.s, .inl x.p, .inl x.c, .inl x.m]
theorem keyT_crd {x : Crd} : keyT x.D = some x.K := rfl
theorem keyTD_crd {x : Crd} : keyTD x.K = x.D := rfl
theorem K_inj {x y : Crd} : x.K = y.K ↔ x = y := by
  constructor
  · intro h
    obtain ⟨w, o, s, p, c, m⟩ := x
    obtain ⟨w', o', s', p', c', m'⟩ := y
    simp [Crd.K] at h
    simp [h]
  · intro h; rw [h]
def far (wt : Wt) : List (List Key × PyData) := wt.map fun e => (e.1.K, .int (e.2 : Nat))
def lk (wt : Wt) (x : Crd) : Option Nat := (wt.find? fun e => decide (e.1 = x)).map (·.2)
theorem cnt_lk {wt : Wt} {x : Crd} : cnt wt x = (lk wt x).getD 0 := rfl
theorem look_far {x : Crd} : ∀ {wt : Wt}, lookP (far wt) x.K = (lk wt x).map fun n => .int (n : Nat)
  | [] => rfl
  | e :: wt => by
    have ih := look_far (x := x) (wt := wt)
    unfold lookP lk far at ih ⊢
    rw [List.map_cons, List.find?_cons, List.find?_cons]
    by_cases h : e.1 = x
    · simp [h]
    · have : ¬ e.1.K = x.K := fun q => h (K_inj.mp q)
      simp only [h, this, decide_false]
      exact ih
theorem put_far {wt : Wt} {x : Crd} {n : Nat} : putP (far wt) x.K (.int (n : Nat)) = far (putW wt x n) := by
  unfold putP putW far
  have e1 : ((wt.map fun e => (e.1.K, PyData.int (e.2 : Nat))).any fun kv => decide (kv.1 = x.K)) = wt.any fun e => decide (e.1 = x) := by
    rw [List.any_map]
    congr 1
    funext e
    simp only [Function.comp]
    rw [Bool.eq_iff_iff, decide_eq_true_iff, decide_eq_true_iff, K_inj]
  rw [e1]
  split
  · rw [List.map_map, List.map_map]
    apply List.map_congr_left
    intro e _
    simp only [Function.comp]
    by_cases h : e.1 = x
    · simp [h]
    · have : ¬ e.1.K = x.K := fun q => h (K_inj.mp q)
      simp [h, this]
  · simp
def wtr (wt : Wt) : Tr := .dt (toT (far wt))
theorem getK_toT {fa : List (List Key × PyData)} {k : List Key} : getK (toT fa) k = (lookP fa k).map .dat := by
  induction fa with
  | nil => rfl
  | cons e fa ih =>
    obtain ⟨k1, d⟩ := e
    unfold getK lookP toT at ih ⊢
    simp only [List.map_cons, List.find?_cons]
    by_cases h : k1 = k
    · simp [h]
    · simp only [h, decide_false]
      exact ih
theorem dats_toT {fa : List (List Key × PyData)} : dats (toT fa) = some fa := by
  induction fa with
  | nil => rfl
  | cons e fa ih =>
    unfold toT at ih ⊢
    simp only [List.map_cons, dats, ih]
    rfl
@[simp] theorem dictAt_w {wt : Wt} {x : Crd} : dictAt (wtr wt) x.D = some ((lk wt x).map fun n => .int (n : Nat)) := by
  unfold dictAt wtr
  simp only [keyT_crd, getK_toT, look_far]
  cases lk wt x <;> rfl
@[simp] theorem dictAt_ft {wt : Wt} {x : Crd} : dictAt (.ft (far wt)) x.D = some ((lk wt x).map fun n => .int (n : Nat)) := by
  unfold dictAt
  simp only [keyT_crd, look_far]
@[simp] theorem rdSl_w {wt : Wt} {i : Nat} {m : Md} : rdSl i (some (.own m (wtr wt))) = some (.o i) := rfl
@[simp] theorem isDk_w {wt : Wt} : isDk (some (wtr wt)) = true := rfl
theorem dput_ok {ρ : Rho} {P : Out → Prop} {T2 : List Nat} {i : Nat} {m : Md} {wt : Wt} {x : Crd} {n : Nat} (hi : ρ[i]? = some (.own m (wtr wt))) (hm : m.ow = true) (hT : T2.contains i = false) (hl : wt.length < 16777216) (k : P (.nx (ρ.set i (.own m (wtr (putW wt x n)))))) :
    okS (dPut1 T2 (.int (n : Nat)) (i, []) (.d x.D) ρ) P := by
  unfold dPut1
  have ht : treeAt ρ (i, []) = some (.dt (toT (far wt))) := by rw [treeAt_eq, hi]; exact at_nil
  have hmo : modeOk ρ i = true := by
    rw [modeOk_eq, hi]
    exact hm
  have hz : small ((far wt).length + 1) = true := small_of (by simp [far]; omega)
  simp only [hT, hmo, ht, keyT_crd, dats_toT, hz, Bool.not_true, Bool.or_false, Bool.false_eq_true, if_false, if_true]
  rw [okS_some, putAt_eq, hi]
  simp only [put_nil]
  rw [put_far]
  exact k
theorem daug_ok {ρ : Rho} {P : Out → Prop} {i j : Nat} {m : Md} {wt : Wt} {x : Crd} (hi : ρ[i]? = some (.own m (wtr wt))) (hj : ρ[j]? = some (.val x.D)) (hm : m.ow = true) (hl : wt.length < 16777216) (hc : 0 < cnt wt x) (k : P (.nx (ρ.set i (.own m (wtr (putW wt x (cnt wt x - 1))))))) :
    okS (sDAugT [] [] (fun i j => i - j) (pVar i) (cVar j) (cD (.int 1)) ρ) P := by
  unfold sDAugT
  refine okS_E' ?_
  rw [okM_pVar, hi]
  simp only [okO_some]
  refine okS_E' ?_
  refine okM_eq (rd_val hj) ?_
  unfold dAug1
  have ht : treeAt ρ (i, []) = some (wtr wt) := by rw [treeAt_eq, hi]; exact at_nil
  have hn : lk wt x = some (cnt wt x) := by
    rw [cnt_lk]
    cases h : lk wt x with
    | none => rw [cnt_lk, h] at hc; exact absurd hc (by simp)
    | some n => rfl
  have hda : dictAt (.dt (toT (far wt))) x.D = some (some (.int (cnt wt x : Nat))) := by
    have := dictAt_w (wt := wt) (x := x)
    rw [hn] at this
    exact this
  rw [if_neg (by simp)]
  rw [show treeAt ρ (i, []) = some (.dt (toT (far wt))) from ht]
  simp only [hda]
  refine okS_E' ?_
  rw [okM_cD]
  unfold dAug2
  have e : ((cnt wt x : Nat) : Int) - 1 = ((cnt wt x - 1 : Nat) : Int) := by omega
  simp only [e]
  exact dput_ok hi hm rfl hl k
theorem place_crd {L : List Crd} {x : Crd} (h : x ∈ L) : ∃ j, SeqAt.dataPlace (L.map Crd.D) x.D = some j ∧ (L.map Crd.D).eraseIdx j = (L.erase x).map Crd.D := by
  have e : SeqAt.dataPlace (L.map Crd.D) x.D = L.findIdx? fun y => decide (y = x) := by
    unfold SeqAt.dataPlace
    rw [List.findIdx?_map]
    congr 1
    funext y
    exact crd_eqv
  rw [e]
  induction L with
  | nil => cases h
  | cons y L ih =>
    rw [List.findIdx?_cons]
    by_cases hy : y = x
    · refine ⟨0, by simp [hy], ?_⟩
      subst hy
      simp
    · have hx : x ∈ L := by
        rcases List.mem_cons.mp h with q | q
        · exact absurd q.symm hy
        · exact q
      have e' : SeqAt.dataPlace (L.map Crd.D) x.D = L.findIdx? fun y => decide (y = x) := by
        unfold SeqAt.dataPlace
        rw [List.findIdx?_map]
        congr 1
        funext y
        exact crd_eqv
      obtain ⟨j, h1, h2⟩ := ih hx e'
      refine ⟨j + 1, by simp [hy, h1], ?_⟩
      rw [List.map_cons, List.eraseIdx_cons_succ, h2, List.erase_cons_tail (by simpa using hy), List.map_cons]
theorem crdsSh {L : List Crd} (hs : ∀ x ∈ L, SideOk x.s) : SeqAt.shaped (.list (L.map Crd.D)) = true := (Sh.list (n := 1) fun y hy => by
  obtain ⟨x, hx, rfl⟩ := List.mem_map.mp hy
  exact sh_crd (hs x hx)).ok
theorem rem_ok {ρ : Rho} {P : Out → Prop} {T2 : List Nat} {i : Nat} {m : Md} {L : List Crd} {x : Crd} {fe : M Rv} (hi : ρ[i]? = some (.own m (tr (L.map Crd.D)))) (hm : m.ow = true) (hT : T2.contains i = false) (hs : ∀ x ∈ L, SideOk x.s) (hx : x ∈ L) (he : fe ρ = some (.ok (.d x.D) ρ))
    (k : P (.nx (ρ.set i (.own m (tr ((L.erase x).map Crd.D)))))) : okS (sRem T2 (pVar i) fe ρ) P := by
  unfold sRem
  refine okS_E' ?_
  rw [okM_pVar, hi]
  simp only [okO_some]
  have ht : treeAt ρ (i, []) = some (.lst ((L.map Crd.D).map .dat)) := by rw [treeAt_eq, hi]; exact at_tr
  rw [ht, isLst_l, if_pos rfl]
  refine okS_E' (okM_eq he ?_)
  unfold rem1
  have hmo : modeOk ρ i = true := by
    rw [modeOk_eq, hi]
    exact hm
  obtain ⟨j, h1, h2⟩ := place_crd hx
  have z1 := crdsSh hs
  have z2 := (sh_crd (hs x hx)).ok
  simp only [hT, hmo, ht, flat_dat, z1, z2, h1, Bool.not_true, Bool.or_false, Bool.false_eq_true, if_false, if_true, Bool.and_self]
  rw [okS_some, putAt_eq, hi]
  simp only [put_nil]
  rw [h2]
  exact k
theorem in_crd {L : List Crd} {x : Crd} : ((L.map Crd.D).any fun z => PyData.eqv z x.D) = decide (x ∈ L) := by
  rw [List.any_map, Bool.eq_iff_iff, List.any_eq_true, decide_eq_true_iff]
  constructor
  · rintro ⟨y, hy, h⟩
    simp only [Function.comp, crd_eqv, decide_eq_true_eq] at h
    rw [← h]; exact hy
  · intro h
    exact ⟨x, h, by simp only [Function.comp, crd_eqv, decide_eq_true_eq]⟩
end SP

end

section
set_option Elab.async false
set_option linter.all false
set_option maxRecDepth 100000
namespace SP
open PySem PySem.Spec PyProof.Rows L2 VL SM
def prD (p : Crd × Crd) : PyData := .tuple [p.1.D, p.2.D]
theorem crd2 {x : Crd} : subD x.D (.int 2) = some (.str x.s) := rfl
inductive JT1 (cs : List Crd) (wt : Wt) : Rho → Prop where
  | mk {a b c d : Sl} (ha : frB (some a) = true) (hb : frB (some b) = true) (hc : frB (some c) = true) (hd : frB (some d) = true) : JT1 cs wt [.val (.list (cs.map Crd.D)), .own .free (wtr wt), a, b, c, d]
inductive JT2 (cs : List Crd) (t : Wt × List (Crd × Crd) × List Crd) : Rho → Prop where
  | mk {a d : Sl} (ha : frB (some a) = true) (hd : frB (some d) = true) : JT2 cs t [.val (.list (cs.map Crd.D)), .own .free (wtr t.1), a, .own .free (tr (t.2.1.map prD)), .own .free (tr (t.2.2.map Crd.D)), d]
inductive JT3 (cs : List Crd) (wt : Wt) (pairs : List (Crd × Crd)) (left : List Crd) : Rho → Prop where
  | mk {a d : Sl} (ha : frB (some a) = true) (hd : frB (some d) = true) : JT3 cs wt pairs left [.val (.list (cs.map Crd.D)), .own .lock (.ft (far wt)), a, .own .free (tr (pairs.map prD)), .own .free (tr (left.map Crd.D)), d]
theorem lk_at : ∀ {wt : Wt} {j : Nat} {e : Crd × Nat}, (keysW wt).Nodup → wt[j]? = some e → lk wt e.1 = some e.2
  | [], j, e, _, h => by simp at h
  | z :: wt, 0, e, _, h => by
    simp at h
    subst h
    simp [lk]
  | z :: wt, j + 1, e, hn, h => by
    have hn := List.nodup_cons.mp (show (z.1 :: keysW wt).Nodup from hn)
    have h' : wt[j]? = some e := by simpa using h
    have ih := lk_at hn.2 h'
    have hne : ¬ z.1 = e.1 := fun q => hn.1 (by rw [q]; exact List.mem_map_of_mem (f := (·.1)) (List.mem_of_getElem? h'))
    unfold lk at ih ⊢
    rw [List.find?_cons]
    simp only [hne, decide_false]
    exact ih
theorem take_fold {α β : Type} {f : β → α → β} {b : β} {xs : List α} {j : Nat} {x : α} (h : xs[j]? = some x) : (xs.take (j + 1)).foldl f b = f ((xs.take j).foldl f b) x := by
  rw [List.take_succ, h]
  simp
theorem tgStep_len {t : Wt × List (Crd × Crd) × List Crd} {x : Crd} : (tgStep t x).1.length ≤ t.1.length + 1 ∧ (tgStep t x).2.1.length ≤ t.2.1.length + 1 ∧ (tgStep t x).2.2.length ≤ t.2.2.length + 1 := by
  unfold tgStep
  split
  · split
    · exact ⟨len_put, by simp, by simp⟩
    · exact ⟨by simp, by simp, by simp⟩
  · simp
theorem cards_loop {α : Type} {cs : List α} {D : α → PyData} {G : MG} {body : MS} {P : Out → Prop} (J : Nat → Rho → Prop) (ρ : Rho) (h0 : J 0 ρ) (hs : ∀ j x ρ, cs[j]? = some x → J j ρ → okR (G (D x) ρ) fun ρ1 => okS (body ρ1) (turn (J (j + 1)) P)) (hd : ∀ ρ, J cs.length ρ → P (.nx ρ)) : okS (loopF G body (cs.map D) ρ) P := by
  refine okS_loop _ J ρ h0 ?_ ?_
  · intro j x ρ hx hJ
    rw [List.getElem?_map] at hx
    obtain ⟨y, hy, rfl⟩ := Option.map_eq_some_iff.mp hx
    exact hs j y ρ hy hJ
  · intro ρ hJ
    rw [List.length_map] at hJ
    exact hd ρ hJ
theorem put_together_ok {cs : List Crd} (hs : ∀ x ∈ cs, SideOk x.s) (hl : cs.length ≤ 1000) {Q : Tr → List Sl → Prop} (k : ∀ outs, Q (.tup [tr ((due cs).2.map prD), tr ((due cs).1.map Crd.D)]) outs) : okF (F_put_together [.val (.list (cs.map Crd.D))]) Q := by
  obtain ⟨d1, d2, d3, d4⟩ := together_due hs
  refine okF_run ?_
  simp only [entry, List.map_cons, List.map_nil, pinS_val]
  unfold g_put_together
  rw [okS_seq]
  refine okS_setN ?_
  simp [List.replicate]
  rw [okS_seq]
  refine okS_E' ?_
  simp
  have shB := (Sh.str (n := 1) canB).ok
  have shS := (Sh.str (n := 1) canS).ok
  refine cards_loop (fun j ρ => ∃ wt, wt = (cs.take j).foldl (fun wt x => if x.s = sBought then putW wt x (cnt wt x + 1) else wt) [] ∧ JT1 cs wt ρ ∧ wt.length ≤ j) _ ⟨[], rfl, ⟨rfl, rfl, rfl, rfl⟩, by simp⟩ ?_ ?_
  · rintro j x ρ hx ⟨wt, hw, hJ, hlen⟩
    have hjl := (List.getElem?_eq_some_iff.mp hx).1
    have hsx := hs x (List.mem_of_getElem? hx)
    have sh := (sh_side hsx (n := 1)).ok
    rw [take_fold hx, ← hw]
    cases hJ with
    | mk h2 h3 h4 h5 =>
      simp [h2]
      unfold b_put_together_2
      refine okS_if ?_
      simp [crd2, sh, shB]
      by_cases hb : x.s = sBought
      · simp [hb]
        refine okS_dput ?_
        simp
        have e : ((lk wt x).map fun n => PyData.int (n : Nat)).getD (.int 0) = .int (cnt wt x : Nat) := by rw [cnt_lk]; cases lk wt x <;> rfl
        rw [e]
        simp
        refine dput_ok (m := .free) (wt := wt) (x := x) (n := cnt wt x + 1) rfl rfl rfl (by omega) ?_
        have := len_put (wt := wt) (x := x) (n := cnt wt x + 1)
        exact ⟨⟨rfl, h3, h4, h5⟩, by omega⟩
      · simp [hb]
        exact ⟨⟨rfl, h3, h4, h5⟩, by omega⟩
  · rintro ρ ⟨wt, hw, hJ, hlen⟩
    rw [List.take_length] at hw
    have hw : wt = wait cs := hw
    cases hJ with
    | mk h2 h3 h4 h5 =>
      rw [nxt_nx, okS_seq]
      refine okS_setN ?_
      simp [h3]
      rw [okS_seq]
      refine okS_setN ?_
      simp [h4]
      rw [okS_seq]
      refine okS_E' ?_
      simp [crd_sortOk hs, -List.map_map]
      rw [sortC_D]
      have hsl : (sortC cs).length = cs.length := sortC_perm.length_eq
      refine cards_loop (fun j ρ => ∃ t, t = ((sortC cs).take j).foldl tgStep (wait cs, [], []) ∧ JT2 cs t ρ ∧ t.1.length ≤ 1000 + j ∧ t.2.1.length ≤ j ∧ t.2.2.length ≤ j ∧ (∀ x ∈ t.2.2, SideOk x.s)) _ ⟨_, rfl, by rw [← hw]; exact ⟨h2, h5⟩, by simp only [List.take_zero, List.foldl_nil]; rw [← hw]; omega, by simp, by simp, fun x hx => by simp at hx⟩ ?_ ?_
      · rintro j x ρ hx ⟨t, ht, hJ, l1, l2, l3, sd⟩
        have hjl := (List.getElem?_eq_some_iff.mp hx).1
        have hsx := hs x (sortC_perm.subset (List.mem_of_getElem? hx))
        have sh := (sh_side hsx (n := 1)).ok
        rw [take_fold hx, ← ht]
        have tl := tgStep_len (t := t) (x := x)
        obtain ⟨wt, pairs, left⟩ := t
        simp only at l1 l2 l3 sd tl
        have fin : ∀ ρ', JT2 cs (tgStep (wt, pairs, left) x) ρ' → ∃ t', t' = tgStep (wt, pairs, left) x ∧ JT2 cs t' ρ' ∧ t'.1.length ≤ 1000 + (j + 1) ∧ t'.2.1.length ≤ j + 1 ∧ t'.2.2.length ≤ j + 1 ∧ ∀ x ∈ t'.2.2, SideOk x.s := fun ρ' h => ⟨_, rfl, h, by omega, by omega, by omega, fun y hy => by
          unfold tgStep at hy
          split at hy
          · split at hy
            · exact sd y hy
            · rcases List.mem_append.mp hy with q | q
              · exact sd y q
              · rw [List.mem_singleton.mp q]; exact hsx
          · exact sd y hy⟩
        cases hJ with
        | mk h2 h5 =>
          simp [h2]
          unfold b_put_together_1
          refine okS_if ?_
          simp [crd2, sh, shS]
          by_cases hx' : x.s = sSold
          · simp [hx']
            rw [okS_seq]
            refine okS_set ?_
            have c3 : ∀ a b c d e f : PyData, cutL [a, b, c, d, e, f] (some 3) none = [d, e, f] := fun _ _ _ _ _ _ => rfl
            have ed : x.D = .tuple [.int x.w, .int x.o, .str x.s, .int x.p, .int x.c, .int x.m] := rfl
            have et : x.twin.D = .tuple [.int x.o, .int x.w, .str sBought, .int x.p, .int x.c, .int x.m] := by
              have := twin_side hx'
              show PyData.tuple [.int x.o, .int x.w, .str x.twin.s, .int x.p, .int x.c, .int x.m] = _
              rw [this]
            rw [ed]
            simp [c3, h5]
            rw [← ed, ← et]
            refine okS_if ?_
            simp
            have e : ((lk wt x.twin).map fun n => PyData.int (n : Nat)).getD (.int 0) = .int (cnt wt x.twin : Nat) := by rw [cnt_lk]; cases lk wt x.twin <;> rfl
            rw [e]
            by_cases hc : 0 < cnt wt x.twin
            · have es : tgStep (wt, pairs, left) x = (putW wt x.twin (cnt wt x.twin - 1), pairs ++ [(x, x.twin)], left) := by unfold tgStep; rw [if_pos hx', if_pos hc]
              rw [es] at fin ⊢
              simp [hc]
              rw [okS_seq]
              refine daug_ok (m := .free) (wt := wt) (x := x.twin) rfl rfl rfl (by omega) hc ?_
              rw [nxt_nx]
              refine app_ok (m := .free) (m' := .free) (xs := pairs.map prD) rfl rfl (by simp; omega) (by simp) ?_
              simp
              have e2 : pairs.map prD ++ [PyData.tuple [x.D, x.twin.D]] = (pairs ++ [(x, x.twin)]).map prD := by simp [prD]
              rw [e2]
              have := fin _ (.mk (a := .val x.D) (d := .val x.twin.D) rfl rfl)
              simpa using this
            · have es : tgStep (wt, pairs, left) x = (wt, pairs, left ++ [x]) := by unfold tgStep; rw [if_pos hx', if_neg hc]
              rw [es] at fin ⊢
              simp [hc]
              refine app_ok (m := .free) (m' := .free) (xs := left.map Crd.D) rfl rfl (by simp; omega) (by simp) ?_
              simp
              have e2 : left.map Crd.D ++ [x.D] = (left ++ [x]).map Crd.D := by simp
              rw [e2]
              have := fin _ (.mk (a := .val x.D) (d := .val x.twin.D) rfl rfl)
              simpa using this
          · have es : tgStep (wt, pairs, left) x = (wt, pairs, left) := by unfold tgStep; rw [if_neg hx']
            rw [es] at fin ⊢
            simp [hx']
            have := fin _ (.mk (a := .val x.D) rfl h5)
            simpa using this
      · rintro ρ ⟨t, ht, hJ, l1, l2, l3, sd⟩
        rw [List.take_length] at ht
        have ht : t = together cs := ht
        rw [hsl] at l1 l2 l3
        rw [← ht] at d1 d2 d3
        obtain ⟨wt, pairs, left⟩ := t
        simp only at d1 d2 d3 l1 l2 l3 sd
        have hin : ∀ y ∈ left ++ expand wt, y ∈ cs := fun y hy => sortC_perm.subset (d4.subset (by rw [← d2]; exact sortC_perm.symm.subset hy))
        have hlen2 : (left ++ expand wt).length ≤ 1000 := by
          have h1 : (left ++ expand wt).length = (due cs).1.length := by rw [← d2]; exact sortC_perm.symm.length_eq
          have h2 := d4.length_le
          omega
        rw [List.length_append] at hlen2
        cases hJ with
        | mk h2 h5 =>
          rw [nxt_nx, okS_seq]
          refine okS_forKT (m := .free) (far := far wt) rfl rfl dats_toT ?_
          have el : ((far wt).map fun kv => keyTD kv.1) = wt.map fun e => e.1.D := by
            unfold far
            rw [List.map_map]
            rfl
          rw [el]
          refine cards_loop (fun j => JT3 cs wt pairs (left ++ expand (wt.take j))) _ ?_ ?_ ?_
          · have e0 : left ++ expand (wt.take 0) = left := by simp [expand]
            rw [e0]
            exact ⟨h2, h5⟩
          · intro j e ρ hx hJ
            have hlk := lk_at d3 hx
            have etk : wt.take (j + 1) = wt.take j ++ [e] := by
              rw [List.take_succ, hx]
              rfl
            have ex : expand (wt.take (j + 1)) = expand (wt.take j) ++ List.replicate e.2 e.1 := by
              rw [etk]
              simp [expand]
            have exl : (expand (wt.take (j + 1))).length ≤ (expand wt).length := by
              have : expand wt = expand (wt.take (j + 1)) ++ expand (wt.drop (j + 1)) := by
                unfold expand
                rw [← List.flatMap_append, List.take_append_drop]
              rw [this]
              simp
            rw [ex] at exl ⊢
            rw [List.length_append, List.length_replicate] at exl
            rw [← List.append_assoc]
            have hzl : (left ++ expand (wt.take j)).length + e.2 ≤ 1000 := by rw [List.length_append]; omega
            generalize left ++ expand (wt.take j) = zs at hJ hzl ⊢
            cases hJ with
            | mk h2 h5 =>
              simp [h2]
              unfold b_put_together_0
              refine ext_ok (m := .free) (m' := .free) (xs := zs.map Crd.D) rfl rfl rfl ?_
              have ro : repOk [e.1.D] (e.2 : Int) = true := by
                unfold repOk
                rw [Bool.and_eq_true]
                exact ⟨decide_eq_true ⟨by omega, by omega⟩, small_of (by simp; omega)⟩
              have rl : repL [e.1.D] (e.2 : Int) = (List.replicate e.2 e.1).map Crd.D := by
                unfold repL
                rw [Int.toNat_natCast]
                generalize e.2 = c
                induction c with
                | zero => rfl
                | succ c ih => rw [List.replicate_succ, List.flatten_cons, ih, List.replicate_succ]; rfl
              simp [hlk, ro, rl, -List.map_map, -List.map_replicate]
              refine ⟨by omega, ?_⟩
              rw [← List.map_append]
              exact ⟨rfl, h5⟩
          · intro ρ hJ
            rw [List.take_length] at hJ
            have hs2 : ∀ x ∈ left ++ expand wt, SideOk x.s := fun y hy => hs y (hin y hy)
            cases hJ with
            | mk h2 h5 =>
              refine ⟨_, rfl, ?_⟩
              simp only [List.set_cons_succ, List.set_cons_zero]
              rw [nxt_nx]
              refine okS_ret ?_
              simp [crd_sortOk hs2, -List.map_map, -List.map_append]
              rw [sortC_D, d2, ← d1]
              exact k _
end SP

end

section
set_option Elab.async false
set_option linter.all false
set_option maxRecDepth 100000
namespace SP
open PySem PySem.Spec PyProof.Rows L2 VL SM
theorem ins_perm {α : Type} {ds : List α} {i : Nat} {d : α} : (ds.take i ++ [d] ++ ds.drop i).Perm (d :: ds) := by
  have e : ds.take i ++ [d] ++ ds.drop i = ds.take i ++ d :: ds.drop i := by simp
  rw [e]
  refine List.perm_middle.trans ?_
  rw [List.take_append_drop]
theorem insL_map {α : Type} {D : α → PyData} {ds : List α} {i : Int} {d : α} : insL (ds.map D) i (D d) = (ds.take i.toNat ++ [d] ++ ds.drop i.toNat).map D := by simp [insL, List.map_take, List.map_drop]
/-! shuffled -/
inductive JH {α : Type} (D : α → PyData) (ds : List α) (es : List α) : Rho → Prop where
  | mk {t : Tr} {a : Sl} (ht : BagT t) (ha : frB (some a) = true) : JH D ds es [.own .pin t, .val (.list (ds.map D)), .own .free (tr (es.map D)), a]
theorem shuffled_ok {α : Type} {D : α → PyData} {m : Md} {t : Tr} {ds : List α} (hm : m.ow = true) (hb : BagT t) (hl : ds.length ≤ 1000) {Q : Tr → List Sl → Prop} (k : ∀ (es : List α) t', es.Perm ds → BagT t' → Q (tr (es.map D)) [.own .pin t', .val (.list (ds.map D))]) :
    okF (F__law_shuffled [.own m t, .val (.list (ds.map D))]) Q := by
  have hp : pinS (.own m t) = .own .pin t := by cases m <;> first | rfl | cases hm
  refine okF_run ?_
  simp only [entry, List.map_cons, List.map_nil, pinS_val, hp]
  unfold g__law_shuffled
  rw [okS_seq]
  refine okS_setN ?_
  simp [List.replicate]
  rw [okS_seq]
  refine okS_for (fun i ρ => ∃ es : List α, es.Perm (ds.take i) ∧ JH D ds es ρ) (xs := ds.map D) ?_ ?_ ?_
  · simp
    exact ⟨hb, rfl⟩
  · rintro i x ρ hx ⟨es, he, hJ⟩
    rw [List.getElem?_map] at hx
    obtain ⟨d, hdi, rfl⟩ := Option.map_eq_some_iff.mp hx
    have hil := (List.getElem?_eq_some_iff.mp hdi).1
    have etk : ds.take (i + 1) = ds.take i ++ [d] := by
      rw [List.take_succ, hdi]
      rfl
    have hle : es.length = i := by rw [he.length_eq, List.length_take]; omega
    cases hJ with
    | @mk t a ht h3 =>
      simp [h3]
      unfold b__law_shuffled_0
      refine ins_ok (m := .free) (xs := es.map D) rfl rfl (by simp; omega) (by simp) ?_
      obtain ⟨g0, g1, g2⟩ := ht
      rw [okM_aCons, okM_cFrz, okM_nCall]
      simp [-okM_callN, -List.map_map, tr, flat_dat]
      refine okM_take rfl (by simp) rfl ⟨g0, g1, g2⟩ (by omega) (lt_lim (by omega) (by omega)) fun r t' r0 r1 ht' => ?_
      simp
      refine ⟨r, (D d), ⟨rfl, rfl⟩, r0, by omega, es.take r.toNat ++ [d] ++ es.drop r.toNat, ?_, ?_⟩
      · rw [etk]
        exact ins_perm.trans ((he.cons d).trans (List.perm_append_singleton d _).symm)
      · rw [insL_map]
        exact ⟨ht', rfl⟩
  · rintro ρ ⟨es, he, hJ⟩
    rw [List.length_map, List.take_length] at he
    cases hJ with
    | @mk t a ht h3 =>
      simp
      exact k es t he ht
end SP

end

section
set_option Elab.async false
set_option linter.all false
set_option maxRecDepth 100000
namespace K08
open PySem PySem.Spec PyProof.Rows L2 VL SM SP
theorem un_fr {s : Sl} (h : unown s = true) : frB (some s) = true := by cases s <;> first | rfl | cases h
theorem ex_crd {L : List Crd} {x : Crd} : (∃ z, z ∈ L ∧ PyData.eqv z.D x.D = true) ↔ x ∈ L := by
  constructor
  · rintro ⟨z, hz, h⟩
    rw [crd_eqv, decide_eq_true_iff] at h
    rw [← h]; exact hz
  · intro h
    exact ⟨x, h, by rw [crd_eqv, decide_eq_true_iff]⟩
/-! what is due -/
inductive JD (cs : List Crd) (t : List Crd × List (Crd × Crd)) : Rho → Prop where
  | mk {a : Sl} (ha : frB (some a) = true) : JD cs t [.val (.list (cs.map Crd.D)), .own .free (tr (t.1.map Crd.D)), .own .free (tr (t.2.map SP.prD)), a]
theorem due_ok {cs : List Crd} (hs : ∀ x ∈ cs, SideOk x.s) (hl : cs.length ≤ 1000) {Q : Tr → List Sl → Prop} (k : ∀ outs, Q (.tup [tr ((due cs).2.map SP.prD), tr ((due cs).1.map Crd.D)]) outs) : okF (F__law_due [.val (.list (cs.map Crd.D))]) Q := by
  refine okF_run ?_
  simp only [entry, List.map_cons, List.map_nil, pinS_val]
  unfold g__law_due
  have shB := (Sh.str (n := 1) canB).ok
  have shS := (Sh.str (n := 1) canS).ok
  rw [okS_seq]
  refine okS_setN ?_
  simp [List.replicate, crd_sortOk hs, -List.map_map]
  rw [sortC_D]
  rw [okS_seq]
  refine okS_setN ?_
  simp [-List.map_map]
  rw [okS_seq]
  refine okS_E' ?_
  simp [crd_sortOk hs, -List.map_map]
  rw [sortC_D]
  have hsl : (sortC cs).length = cs.length := sortC_perm.length_eq
  refine cards_loop (fun j ρ => ∃ t, t = ((sortC cs).take j).foldl lwStep (sortC cs, []) ∧ JD cs t ρ ∧ t.2.length ≤ j ∧ ∀ x ∈ t.1, SideOk x.s) _ ⟨_, rfl, ⟨rfl⟩, by simp, fun x hx => hs x (sortC_perm.subset (by simpa using hx))⟩ ?_ ?_
  · rintro j x ρ hx ⟨t, ht, hJ, l2, sd⟩
    have hjl := (List.getElem?_eq_some_iff.mp hx).1
    have hsx := hs x (sortC_perm.subset (List.mem_of_getElem? hx))
    have sh := (sh_side hsx (n := 1)).ok
    have shx := (sh_crd hsx).ok
    rw [take_fold hx, ← ht]
    obtain ⟨L, pairs⟩ := t
    simp only at l2 sd
    have shL := crdsSh sd
    cases hJ with
    | mk h3 =>
      simp [h3]
      unfold b__law_due_0
      refine okS_if ?_
      simp [crd2, sh, shS]
      by_cases hx' : x.s = sSold
      · have sht : SeqAt.shaped x.twin.D = true := (sh_crd (x := x.twin) flip_ok).ok
        have hne : x ≠ x.twin := fun q => sold_bought (by rw [← hx', ← twin_side hx', ← q])
        simp [hx', shx, shL, ex_crd, -okM_callN]
        by_cases hxL : x ∈ L
        · simp [hxL, -okM_callN]
          refine twin_ok hsx fun outs => ?_
          simp [sht, shL, ex_crd]
          by_cases htL : x.twin ∈ L
          · have es : lwStep (L, pairs) x = ((L.erase x).erase x.twin, pairs ++ [(x, x.twin)]) := by unfold lwStep; rw [if_pos ⟨hx', hxL, htL⟩]
            rw [es]
            have sd1 : ∀ y ∈ L.erase x, SideOk y.s := fun y hy => sd y (List.mem_of_mem_erase hy)
            have et : ∀ {ρ : Rho}, ρ[3]? = some (.val x.D) → cFrz (nCall [3] 1 F__law_twin (aCons (cVar 3) aNil)) ρ = some (.ok (.d x.twin.D) ρ) := fun {ρ} h => by
              refine okM_of ?_
              rw [okM_cFrz, okM_nCall, okM_aCons]
              refine okM_eq (rd_val h) ?_
              simp [-okM_callN]
              refine okM_pure1 (twin_ok hsx fun outs => ?_)
              simp
            simp [htL]
            rw [okS_seq]
            refine rem_ok (m := .free) (L := L) (x := x) rfl rfl rfl sd hxL (rd_val rfl) ?_
            rw [nxt_nx, okS_seq]
            refine rem_ok (m := .free) (L := L.erase x) (x := x.twin) rfl rfl rfl sd1 ((List.mem_erase_of_ne (Ne.symm hne)).mpr htL) (et rfl) ?_
            rw [nxt_nx]
            refine app_ok (m := .free) (m' := .free) (xs := pairs.map SP.prD) rfl rfl (by simp; omega) (by simp) ?_
            rw [okM_cTup, okM_aCons]
            refine okM_eq (rd_val rfl) ?_
            rw [okM_aCons]
            refine okM_eq (et rfl) ?_
            simp
            have e2 : pairs.map SP.prD ++ [PyData.tuple [x.D, x.twin.D]] = (pairs ++ [(x, x.twin)]).map SP.prD := by simp [SP.prD]
            rw [e2]
            have hj : JD cs ((L.erase x).erase x.twin, pairs ++ [(x, x.twin)]) _ := .mk (a := .val x.D) rfl
            exact ⟨hj, by omega, fun y hy => sd1 y (List.mem_of_mem_erase hy)⟩
          · have es : lwStep (L, pairs) x = (L, pairs) := by unfold lwStep; rw [if_neg fun q => htL q.2.2]
            rw [es]
            simp [htL]
            exact ⟨.mk (a := .val x.D) rfl, by omega, sd⟩
        · have es : lwStep (L, pairs) x = (L, pairs) := by unfold lwStep; rw [if_neg fun q => hxL q.2.1]
          rw [es]
          simp [hxL]
          exact ⟨.mk (a := .val x.D) rfl, by omega, sd⟩
      · have es : lwStep (L, pairs) x = (L, pairs) := by unfold lwStep; rw [if_neg fun q => hx' q.1]
        rw [es]
        simp [hx']
        exact ⟨.mk (a := .val x.D) rfl, by omega, sd⟩
  · rintro ρ ⟨t, ht, hJ, l2, sd⟩
    rw [List.take_length] at ht
    have ht : t = due cs := ht
    cases hJ with
    | mk h3 =>
      rw [nxt_nx]
      refine okS_ret ?_
      simp [ht]
      exact k _
theorem pairs_ok : ∀ (R : List Crd) (t : List Crd × List (Crd × Crd)), (∀ x ∈ R, SideOk x.s) → (∀ p ∈ t.2, SideOk p.1.s ∧ SideOk p.2.s) → ∀ p ∈ (R.foldl lwStep t).2, SideOk p.1.s ∧ SideOk p.2.s
  | [], t, _, h => h
  | x :: R, t, hR, h => by
    rw [List.foldl_cons]
    refine pairs_ok R _ (fun y hy => hR y (List.mem_cons_of_mem _ hy)) ?_
    unfold lwStep
    split
    · intro p hp
      rcases List.mem_append.mp hp with q | q
      · exact h p q
      · rw [List.mem_singleton.mp q]
        exact ⟨hR x List.mem_cons_self, flip_ok⟩
    · exact h
theorem pairs_len : ∀ {R L : List Crd} {ps : List (Crd × Crd)}, (R.foldl lwStep (L, ps)).2.length ≤ ps.length + R.length
  | [], L, ps => by simp
  | x :: R, L, ps => by
    rw [List.foldl_cons]
    have ih := pairs_len (R := R) (L := (lwStep (L, ps) x).1) (ps := (lwStep (L, ps) x).2)
    have : (lwStep (L, ps) x).2.length ≤ ps.length + 1 := by
      unfold lwStep
      split <;> simp
    simp only [List.length_cons]
    have e : ((lwStep (L, ps) x).1, (lwStep (L, ps) x).2) = lwStep (L, ps) x := rfl
    rw [e] at ih
    omega
/-! the cards -/
inductive JC (cs : List Crd) (n : Int) : Rho → Prop where
  | mk {t : Tr} {a b c : Sl} (ht : BagT t) (ha : frB (some a) = true) (hb : frB (some b) = true) (hc : frB (some c) = true) : JC cs n [.own .pin t, .val (.int n), .own .free (tr (cs.map Crd.D)), a, b, c]
theorem cards_ok {m : Md} {t : Tr} (hm : m.ow = true) (hb : BagT t) {Q : Tr → List Sl → Prop} (k : ∀ (cs : List Crd) t', (∀ x ∈ cs, SideOk x.s) → cs.length ≤ 1000 → BagT t' → Q (tr (cs.map Crd.D)) [.own .pin t']) : okF (F__law_cards [.own m t]) Q := by
  have hp : pinS (.own m t) = .own .pin t := by cases m <;> first | rfl | cases hm
  refine okF_run ?_
  simp only [entry, List.map_cons, List.map_nil, hp]
  unfold g__law_cards
  rw [okS_seq]
  refine okS_set ?_
  obtain ⟨g0, g1, g2⟩ := hb
  simp [-okM_callN, List.replicate]
  refine okM_take rfl (by simp) rfl ⟨g0, g1, g2⟩ (by omega) (lt_lim (by omega) (by omega)) fun a1 t' a10 a11 ht => ?_
  obtain ⟨g0, g1, g2⟩ := ht
  simp [-okM_callN]
  refine okM_take rfl (by simp) rfl ⟨g0, g1, g2⟩ (by omega) (lt_lim (by omega) (by omega)) fun a2 t' a20 a21 ht => ?_
  obtain ⟨g0, g1, g2⟩ := ht
  simp [-okM_callN]
  refine okM_take rfl (by simp) rfl ⟨g0, g1, g2⟩ (by omega) (lt_lim (by omega) (by omega)) fun a3 t' a30 a31 ht => ?_
  obtain ⟨g0, g1, g2⟩ := ht
  simp [-okM_callN]
  refine okM_take rfl (by simp) rfl ⟨g0, g1, g2⟩ (by omega) (lt_lim (by omega) (by omega)) fun w t' w0 w1 ht => ?_
  obtain ⟨n, en, n0, n1⟩ : ∃ v : Int, atI [PyData.int a1, .int a2, .int a3] (if w / 2 < 2 then w / 2 else 2) = some (.int v) ∧ 0 ≤ v ∧ v ≤ 400 := by
    have : w / 2 = 0 ∨ w / 2 = 1 ∨ w / 2 = 2 := by omega
    rcases this with q | q | q
    · rw [q]; exact ⟨a1, rfl, by omega, by omega⟩
    · rw [q]; exact ⟨a2, rfl, by omega, by omega⟩
    · rw [q]; exact ⟨a3, rfl, by omega, by omega⟩
  have l2 : 2 < lim := by decide +kernel
  simp [en, l2]
  rw [okS_seq]
  refine okS_setN ?_
  simp
  rw [okS_seq]
  refine okS_E' (okM_iRange1 ?_)
  simp
  refine ⟨by omega, by omega, ?_⟩
  refine okS_loop _ (fun j ρ => ∃ cs : List Crd, cs.length = j ∧ (∀ x ∈ cs, SideOk x.s) ∧ JC cs n ρ) _ ⟨[], rfl, (fun x h => nomatch h), ht, rfl, rfl, rfl⟩ ?_ ?_
  · rintro j x ρ hx ⟨cs, hl, hs, hJ⟩
    obtain ⟨hj, rfl⟩ := rangeD_get0 hx
    cases hJ with
    | @mk t a b c ht h3 h4 h5 =>
      simp [h3]
      unfold b__law_cards_0
      rw [okS_seq]
      refine okS_set ?_
      obtain ⟨g0, g1, g2⟩ := ht
      simp [-okM_callN]
      refine okM_card rfl (by simp) rfl ⟨g0, g1, g2⟩ (by omega) (by omega) fun d t' hd ht => ?_
      obtain ⟨x, rfl, xok⟩ := card_inv hd
      have hsx := xok.hd
      clear hd xok
      simp [h4]
      rw [okS_seq]
      refine okS_set ?_
      obtain ⟨g0, g1, g2⟩ := ht
      simp [-okM_callN]
      refine okM_take rfl (by simp) rfl ⟨g0, g1, g2⟩ (by omega) (lt_lim (by omega) (by omega)) fun w t' w0 w1 ht => ?_
      simp [h5]
      have fin : ∀ (y : Crd) (t : Tr) (w : Int) (s3 : Sl), SideOk y.s → BagT t → frB (some s3) = true → ∀ {P : Out → Prop}, (∀ ρ', (∃ cs' : List Crd, cs'.length = j + 1 ∧ (∀ x ∈ cs', SideOk x.s) ∧ JC cs' n ρ') → P (.nx ρ')) →
          okS (sApp [] (pVar 2) (nDat (cVar 4)) [.own .pin t, .val (.int n), .own .free (tr (cs.map Crd.D)), s3, .val y.D, .val (.int w)]) P := fun y t w s3 hy ht h3 P k => by
        refine app_ok (m := .free) (m' := .free) (xs := cs.map Crd.D) rfl rfl (by simp; omega) (by simp) ?_
        simp
        have e : cs.map Crd.D ++ [y.D] = (cs ++ [y]).map Crd.D := by simp
        rw [e]
        refine k _ ⟨cs ++ [y], by simp [hl], fun z hz => ?_, ht, h3, rfl, rfl⟩
        rcases List.mem_append.mp hz with q | q
        · exact hs z q
        · rw [List.mem_singleton.mp q]; exact hy
      rw [okS_seq]
      refine okS_if ?_
      have shN : SeqAt.shaped (.list []) = true := (Sh.list (n := 0) (xs := []) (fun x hx => nomatch hx)).ok
      have evN : ∀ ys : List PyData, PyData.eqv (.list ys) (.list []) = ys.isEmpty := fun ys => by cases ys <;> simp [PyData.eqv, PyData.eqvAll]
      simp [shN, evN, crdsSh hs]
      by_cases hne : cs = []
      · simp [hne]
        rw [hne] at fin
        exact fin x _ w _ hsx ht rfl fun ρ' h => h
      · simp [hne]
        by_cases hw : w < 4
        · simp [hw]
          have hpos : 0 < cs.length := List.length_pos_iff.mpr hne
          rw [okS_seq]
          refine okS_set ?_
          obtain ⟨g0, g1, g2⟩ := ht
          simp [-okM_callN]
          refine okM_take rfl (by simp) rfl ⟨g0, g1, g2⟩ (by omega) (lt_lim (by omega) (by omega)) fun r t' r0 r1 ht => ?_
          obtain ⟨y, hy⟩ : ∃ y, cs[r.toNat]? = some y := ⟨cs[r.toNat]'(by omega), List.getElem?_eq_getElem (by omega)⟩
          have hsy := hs y (List.mem_of_getElem? hy)
          have ea : atI (cs.map Crd.D) r = some y.D := by
            unfold atI
            have : ixN (cs.map Crd.D).length r = some r.toNat := by
              unfold ixN
              rw [if_pos r0, if_pos (by rw [List.length_map]; omega)]
            rw [this]
            simp [hy]
          simp [ea]
          rw [okS_seq]
          refine okS_if ?_
          have go : ∀ (y : Crd), SideOk y.s → ∀ (s3 : Sl), frB (some s3) = true → ∀ {P : Out → Prop}, (∀ (z : Crd) , SideOk z.s → P (.nx [.own .pin t', .val (.int n), .own .free (tr (cs.map Crd.D)), s3, .val z.D, .val (.int w)])) →
              okS (sIf (cCmp eqD (cVar 5) (cD (.int 2))) (sSet 4 (cBin addD (cBin addD (cCut (cVar 4) oNone (oSome (cD (.int 3)))) (cTup (aCons (cBin subtD (cBin addD (cBin subD (cVar 4) (cD (.int 3))) (cD (.int 1))) (cBin mulD (cD (.int 2)) (cCall intD (aCons (cOf (cCmp gtD (cBin subD (cVar 4) (cD (.int 3))) (cD (.int 100)))) aNil)))) aNil))) (cCut (cVar 4) (oSome (cD (.int 4))) oNone))) sNil
                [.own .pin t', .val (.int n), .own .free (tr (cs.map Crd.D)), s3, .val y.D, .val (.int w)]) P := fun y hy s3 h3 P k => by
            refine okS_if ?_
            by_cases h2 : w = 2
            · simp [h2]
              refine okS_set ?_
              have c3 : ∀ a b c d e f : PyData, cutL [a, b, c, d, e, f] none (some 3) = [a, b, c] := fun _ _ _ _ _ _ => rfl
              have c4 : ∀ a b c d e f : PyData, cutL [a, b, c, d, e, f] (some 4) none = [e, f] := fun _ _ _ _ _ _ => rfl
              have l2 : 2 < lim ∧ 1 < lim ∧ 0 < lim := by decide +kernel
              have := k ⟨y.w, y.o, y.s, y.p + 1 - 2 * (if y.p > 100 then 1 else 0), y.c, y.m⟩ hy
              subst h2
              have lm : (if y.p > 100 then (1 : Int) else 0).natAbs < lim := by split <;> decide +kernel
              simp [Crd.D, c3, c4, l2, lm] at this ⊢
              first
                | exact this
                | (refine ⟨?_, this⟩; split <;> decide +kernel)
            · simp [h2]
              exact k y hy
          by_cases hw2 : w < 2
          · simp [hw2]
            refine okS_set ?_
            simp [-okM_callN]
            refine okM_pure1 (twin_ok hsy fun outs => ?_)
            simp
            refine go y.twin flip_ok _ rfl fun z hz => ?_
            rw [nxt_nx]
            exact fin z _ w _ hz ht rfl fun ρ' h => h
          · simp [hw2]
            refine go y hsy _ rfl fun z hz => ?_
            rw [nxt_nx]
            exact fin z _ w _ hz ht rfl fun ρ' h => h
        · simp [hw]
          exact fin x _ w _ hsx ht rfl fun ρ' h => h
  · rintro ρ ⟨cs, hl, hs, hJ⟩
    rw [rangeD_len] at hl
    cases hJ with
    | @mk t a b c ht h3 h4 h5 =>
      simp
      exact k cs t hs (by omega) ht
/-! the law -/
theorem dueSh {cs : List Crd} (hs : ∀ x ∈ cs, SideOk x.s) : SeqAt.shaped (.tuple [.list ((due cs).2.map SP.prD), .list ((due cs).1.map Crd.D)]) = true := by
  obtain ⟨d1, d2, d3, d4⟩ := together_due hs
  have h1 : ∀ x ∈ (due cs).1, SideOk x.s := fun x hx => hs x (sortC_perm.subset (d4.subset hx))
  have h2 : ∀ p ∈ (due cs).2, SideOk p.1.s ∧ SideOk p.2.s := pairs_ok _ _ (fun x hx => hs x (sortC_perm.subset hx)) (fun p hp => nomatch hp)
  refine (Sh.tuple (n := 3) fun x hx => ?_).ok
  simp only [List.mem_cons, List.not_mem_nil, or_false] at hx
  rcases hx with rfl | rfl
  · refine .list fun x hx => ?_
    obtain ⟨p, hp, rfl⟩ := List.mem_map.mp hx
    refine .tuple fun x hx => ?_
    simp only [List.mem_cons, List.not_mem_nil, or_false] at hx
    rcases hx with rfl | rfl
    · exact sh_crd (h2 p hp).1
    · exact sh_crd (h2 p hp).2
  · refine .list fun x hx => ?_
    obtain ⟨y, hy, rfl⟩ := List.mem_map.mp hx
    exact (sh_crd (h1 y hy)).mono (by omega)
theorem due_congr {cs es : List Crd} (h : es.Perm cs) : due es = due cs := by
  unfold due
  rw [sortC_congr h]
theorem due_len {cs : List Crd} (hs : ∀ x ∈ cs, SideOk x.s) : (due cs).1.length ≤ cs.length := by
  obtain ⟨d1, d2, d3, d4⟩ := together_due hs
  have := d4.length_le
  rw [sortC_perm.length_eq] at this
  exact this
inductive JO (ns : List Int) : Rho → Prop where
  | mk {a2 a6 : Sl} {a b c d : Sl} (h2 : frB (some a2) = true) (h6 : frB (some a6) = true) (ha : unown a = true) (hb : unown b = true) (hc : unown c = true) (hd : unown d = true) : JO ns [.val (scrD ns), a, a2, b, c, d, a6]
theorem law_true : ∀ ns : List Int, ns.length ≤ 63 → ∃ outs, F_law [.val (scrD ns)] = some (.ret (.dat (.bool true)), outs) := by
  intro ns hns
  have h : okF (F_law [.val (scrD ns)]) fun t _ => t = .dat (.bool true) := by
    refine okF_run ?_
    simp only [entry, List.map_cons, List.map_nil, pinS_val]
    unfold g_law
    rw [okS_seq]
    refine okS_E' (okM_iRange1 ?_)
    simp
    refine ⟨by split <;> omega, by split <;> omega, ?_⟩
    refine okS_loop _ (fun _ => JO ns) _ ?_ ?_ ?_
    · exact ⟨rfl, rfl, rfl, rfl, rfl, rfl⟩
    · intro i x ρ hx hJ
      obtain ⟨hi, rfl⟩ := rangeD_get0 hx
      have hi' : i ≤ 40 := by split at hi <;> omega
      cases hJ with
      | mk h2 h6 h1 h3 h4 h5 =>
        simp [un_fr h1]
        unfold b_law_0
        rw [okS_seq]
        refine okS_setN ?_
        simp [-okM_callN]
        refine okM_bag hi' fun t ht => ?_
        simp [h2]
        rw [okS_seq]
        refine okS_set ?_
        obtain ⟨g0, g1, g2⟩ := ht
        simp [-okM_callN]
        rw [okM_callN]
        simp
        refine cards_ok (by simp) ⟨g0, g1, g2⟩ fun cs t' hs hl ht => ?_
        simp [toD_tr, un_fr h3]
        have dt : ∀ d : List Crd × List (Crd × Crd), (Tr.tup [tr (d.2.map SP.prD), tr (d.1.map Crd.D)]).toD = some (.tuple [.list (d.2.map SP.prD), .list (d.1.map Crd.D)]) := fun d => by simp [Tr.toD, Tr.toDs]
        rw [okS_seq]
        refine okS_set ?_
        simp [-okM_callN, -List.map_map]
        refine okM_pure1 (due_ok hs hl fun outs => ?_)
        rw [dt]
        simp [un_fr h4, -List.map_map]
        rw [okS_seq]
        refine okS_set ?_
        simp [un_fr h5, -List.map_map]
        rw [okS_seq]
        refine okS_setN ?_
        simp [-okM_callN, -List.map_map]
        refine okM_pure1 (put_together_ok hs hl fun outs => ?_)
        have hsh := dueSh hs
        have hdl := due_len hs
        have hdl2 : (due cs).2.length ≤ cs.length := by
          have := pairs_len (R := sortC cs) (L := sortC cs) (ps := [])
          simpa [due, sortC_perm.length_eq] using this
        have hdue : ∀ es : List Crd, es.Perm cs → due es = due cs := fun es he => due_congr he
        generalize due cs = dd at hsh hdl hdl2 hdue
        simp [h6, -List.map_map]
        rw [okS_seq]
        refine okS_if ?_
        rw [okM_cOr, okM_cCmp]
        simp only [okM_var_val]
        simp [dt, hsh, eqv_self hsh, crdsSh hs, eqv_self (crdsSh hs), -okM_callN, -List.map_map, Tr.toD, Tr.toDs]
        obtain ⟨g0, g1, g2⟩ := ht
        simp [-okM_callN, -List.map_map]
        rw [okM_callN]
        simp [-List.map_map]
        refine shuffled_ok (D := Crd.D) (ds := cs) (by simp) ⟨g0, g1, g2⟩ hl fun es t' hp ht => ?_
        have hs2 : ∀ x ∈ es, SideOk x.s := fun x hx => hs x (hp.subset hx)
        simp [toD_tr, -okM_callN, -List.map_map]
        refine put_together_ok hs2 (by rw [hp.length_eq]; exact hl) fun outs => ?_
        rw [hdue es hp, dt]
        simp [hsh, eqv_self hsh, -List.map_map]
        rw [okS_seq]
        refine okS_app ?_
        have p0 : ∀ {ρ : Rho} {a b : Tr}, ρ[6]? = some (.own .free (.tup [a, b])) → pIx [] (pVar 6) (cD (.int 0)) ρ = some (.ok (6, [0]) ρ) := fun {ρ a b} h => by
          refine okM_of ?_
          have e : ixN 2 0 = some 0 := rfl
          rw [okM_pIx, okM_pVar, h]
          simp [h, e]
        have p1 : ∀ {ρ : Rho} {a b : Tr}, ρ[6]? = some (.own .free (.tup [a, b])) → pIx [] (pVar 6) (cD (.int 1)) ρ = some (.ok (6, [1]) ρ) := fun {ρ a b} h => by
          refine okM_of ?_
          have e : ixN 2 1 = some 1 := rfl
          rw [okM_pIx, okM_pVar, h]
          simp [h, e]
        refine okM_eq (p0 rfl) ?_
        simp [setKid, tr, -List.map_map]
        refine ⟨small_of (by simp; omega), ?_⟩
        rw [okS_seq]
        refine okS_app ?_
        refine okM_eq (p1 rfl) ?_
        simp [setKid, -List.map_map]
        refine ⟨small_of (by simp; omega), ?_⟩
        refine okS_if ?_
        simp [-okM_callN, -List.map_map]
        refine okM_pure1 (put_together_ok hs hl fun outs => ?_)
        rw [hdue cs (.refl _), dt]
        simp [hsh, eqv_self hsh, -List.map_map]
        exact ⟨rfl, rfl, rfl, rfl, rfl, rfl⟩
    · intro ρ hJ
      rw [nxt_nx]
      refine okS_ret ?_
      simp
  obtain ⟨t, outs, e, rfl⟩ := h
  exact ⟨outs, e⟩
end K08

end

section
set_option Elab.async false
set_option linter.all false
set_option maxRecDepth 100000
namespace K08
open PySem PySem.Spec PyProof.Rows L2 VL SM
theorem all_mk {l : PySem.W.OpenLaw} {w : World} {K : PySem.W.Frag} {h : Heap} {mg : Str → Option Value} {fa : Addr} (X : K.In h) (G : h.Ns mainGlobals mg) (hfa : mg "law" = some (.ref fa))
    {od1 an1 : Option Addr} {sl1 : Array (Option Value)} {f1 : Addr} {oc1 kV1 dc1 pm1 cd1 ct1 : Value} {od2 an2 : Option Addr} {sl2 : Array (Option Value)} {f2 : Addr} {oc2 kV2 dc2 pm2 cd2 ct2 : Value} {od3 an3 : Option Addr} {sl3 : Array (Option Value)} {f3 : Addr} {oc3 kV3 dc3 pm3 cd3 ct3 : Value} {od4 an4 : Option Addr} {sl4 : Array (Option Value)} {f4 : Addr} {oc4 kV4 dc4 pm4 cd4 ct4 : Value} {od5 an5 : Option Addr} {sl5 : Array (Option Value)} {f5 : Addr} {oc5 kV5 dc5 pm5 cd5 ct5 : Value} {od6 an6 : Option Addr} {sl6 : Array (Option Value)} {f6 : Addr} {oc6 kV6 dc6 pm6 cd6 ct6 : Value} {od7 an7 : Option Addr} {sl7 : Array (Option Value)} {f7 : Addr} {oc7 kV7 dc7 pm7 cd7 ct7 : Value} {od8 an8 : Option Addr} {sl8 : Array (Option Value)} {f8 : Addr} {oc8 kV8 dc8 pm8 cd8 ct8 : Value} {od9 an9 : Option Addr} {sl9 : Array (Option Value)} {f9 : Addr} {oc9 kV9 dc9 pm9 cd9 ct9 : Value}
    (a1 : PySem.W.nsIn K mainGlobals "put_together" = some (some (.ref f1))) (l1 : K.lookup f1 = some ⟨oc1, od1, .func (PySem.W.fnOf "put_together" "put_together" (defArgs st_put_together) (defBody st_put_together) (defScope st_put_together) .none kV1 dc1 pm1 an1 cd1 ct1), sl1⟩) (c1 : PySem.W.codeIn K cd1 "put_together" = true) (k1 : PySem.W.keepIn K (.ref f1) = true)
    (a2 : PySem.W.nsIn K mainGlobals "_law_bag" = some (some (.ref f2))) (l2 : K.lookup f2 = some ⟨oc2, od2, .func (PySem.W.fnOf "_law_bag" "_law_bag" (defArgs st__law_bag) (defBody st__law_bag) (defScope st__law_bag) .none kV2 dc2 pm2 an2 cd2 ct2), sl2⟩) (c2 : PySem.W.codeIn K cd2 "_law_bag" = true) (k2 : PySem.W.keepIn K (.ref f2) = true)
    (a3 : PySem.W.nsIn K mainGlobals "_law_take" = some (some (.ref f3))) (l3 : K.lookup f3 = some ⟨oc3, od3, .func (PySem.W.fnOf "_law_take" "_law_take" (defArgs st__law_take) (defBody st__law_take) (defScope st__law_take) .none kV3 dc3 pm3 an3 cd3 ct3), sl3⟩) (c3 : PySem.W.codeIn K cd3 "_law_take" = true) (k3 : PySem.W.keepIn K (.ref f3) = true)
    (a4 : PySem.W.nsIn K mainGlobals "_law_twin" = some (some (.ref f4))) (l4 : K.lookup f4 = some ⟨oc4, od4, .func (PySem.W.fnOf "_law_twin" "_law_twin" (defArgs st__law_twin) (defBody st__law_twin) (defScope st__law_twin) .none kV4 dc4 pm4 an4 cd4 ct4), sl4⟩) (c4 : PySem.W.codeIn K cd4 "_law_twin" = true) (k4 : PySem.W.keepIn K (.ref f4) = true)
    (a5 : PySem.W.nsIn K mainGlobals "_law_due" = some (some (.ref f5))) (l5 : K.lookup f5 = some ⟨oc5, od5, .func (PySem.W.fnOf "_law_due" "_law_due" (defArgs st__law_due) (defBody st__law_due) (defScope st__law_due) .none kV5 dc5 pm5 an5 cd5 ct5), sl5⟩) (c5 : PySem.W.codeIn K cd5 "_law_due" = true) (k5 : PySem.W.keepIn K (.ref f5) = true)
    (a6 : PySem.W.nsIn K mainGlobals "_law_shuffled" = some (some (.ref f6))) (l6 : K.lookup f6 = some ⟨oc6, od6, .func (PySem.W.fnOf "_law_shuffled" "_law_shuffled" (defArgs st__law_shuffled) (defBody st__law_shuffled) (defScope st__law_shuffled) .none kV6 dc6 pm6 an6 cd6 ct6), sl6⟩) (c6 : PySem.W.codeIn K cd6 "_law_shuffled" = true) (k6 : PySem.W.keepIn K (.ref f6) = true)
    (a7 : PySem.W.nsIn K mainGlobals "_law_card" = some (some (.ref f7))) (l7 : K.lookup f7 = some ⟨oc7, od7, .func (PySem.W.fnOf "_law_card" "_law_card" (defArgs st__law_card) (defBody st__law_card) (defScope st__law_card) .none kV7 dc7 pm7 an7 cd7 ct7), sl7⟩) (c7 : PySem.W.codeIn K cd7 "_law_card" = true) (k7 : PySem.W.keepIn K (.ref f7) = true)
    (a8 : PySem.W.nsIn K mainGlobals "_law_cards" = some (some (.ref f8))) (l8 : K.lookup f8 = some ⟨oc8, od8, .func (PySem.W.fnOf "_law_cards" "_law_cards" (defArgs st__law_cards) (defBody st__law_cards) (defScope st__law_cards) .none kV8 dc8 pm8 an8 cd8 ct8), sl8⟩) (c8 : PySem.W.codeIn K cd8 "_law_cards" = true) (k8 : PySem.W.keepIn K (.ref f8) = true)
    (a9 : PySem.W.nsIn K mainGlobals "law" = some (some (.ref f9))) (l9 : K.lookup f9 = some ⟨oc9, od9, .func (PySem.W.fnOf "law" "law" (defArgs st_law) (defBody st_law) (defScope st_law) .none kV9 dc9 pm9 an9 cd9 ct9), sl9⟩) (c9 : PySem.W.codeIn K cd9 "law" = true) (k9 : PySem.W.keepIn K (.ref f9) = true)
    (z1 : PySem.W.nsIn K mainGlobals "int" = some none)
    (z2 : PySem.W.nsIn K mainGlobals "len" = some none)
    (z3 : PySem.W.nsIn K mainGlobals "list" = some none)
    (z4 : PySem.W.nsIn K mainGlobals "min" = some none)
    (z5 : PySem.W.nsIn K mainGlobals "range" = some none)
    (z6 : PySem.W.nsIn K mainGlobals "sorted" = some none)
    : ∃ fd : FuncData, (∀ (s : Shared) (v : Value), BindsTo s fd ⟨[v], []⟩ [("script", v)]) ∧ ∀ base : Heap, K.In base → base.Ns mainGlobals mg → TbB K base mg → FnOk l.prog w K mg base CX0 4 fa fd ["script"] (spLaw K) := by
  have e := hfa.symm.trans (PySem.W.mg_of X G a9)
  cases e
  have F1 := fun_mk (st := st_put_together) l1 c1 k1
  have b1 := F1.binds (ps := ["cards"]) fun _ _ _ _ _ _ us hl => match us, hl with | [_], _ => rfl
  have F2 := fun_mk (st := st__law_bag) l2 c2 k2
  have b2 := F2.binds (ps := ["script", "k"]) fun _ _ _ _ _ _ us hl => match us, hl with | [_, _], _ => rfl
  have F3 := fun_mk (st := st__law_take) l3 c3 k3
  have b3 := F3.binds (ps := ["bag", "many"]) fun _ _ _ _ _ _ us hl => match us, hl with | [_, _], _ => rfl
  have F4 := fun_mk (st := st__law_twin) l4 c4 k4
  have b4 := F4.binds (ps := ["card"]) fun _ _ _ _ _ _ us hl => match us, hl with | [_], _ => rfl
  have F5 := fun_mk (st := st__law_due) l5 c5 k5
  have b5 := F5.binds (ps := ["cards"]) fun _ _ _ _ _ _ us hl => match us, hl with | [_], _ => rfl
  have F6 := fun_mk (st := st__law_shuffled) l6 c6 k6
  have b6 := F6.binds (ps := ["bag", "some"]) fun _ _ _ _ _ _ us hl => match us, hl with | [_, _], _ => rfl
  have F7 := fun_mk (st := st__law_card) l7 c7 k7
  have b7 := F7.binds (ps := ["bag", "members"]) fun _ _ _ _ _ _ us hl => match us, hl with | [_, _], _ => rfl
  have F8 := fun_mk (st := st__law_cards) l8 c8 k8
  have b8 := F8.binds (ps := ["bag"]) fun _ _ _ _ _ _ us hl => match us, hl with | [_], _ => rfl
  have F9 := fun_mk (st := st_law) l9 c9 k9
  have b9 := F9.binds (ps := ["script"]) fun _ _ _ _ _ _ us hl => match us, hl with | [_], _ => rfl
  have A : All K w mg ⟨f1, PySem.W.fnOf "put_together" "put_together" (defArgs st_put_together) (defBody st_put_together) (defScope st_put_together) .none kV1 dc1 pm1 an1 cd1 ct1, f2, PySem.W.fnOf "_law_bag" "_law_bag" (defArgs st__law_bag) (defBody st__law_bag) (defScope st__law_bag) .none kV2 dc2 pm2 an2 cd2 ct2, f3, PySem.W.fnOf "_law_take" "_law_take" (defArgs st__law_take) (defBody st__law_take) (defScope st__law_take) .none kV3 dc3 pm3 an3 cd3 ct3, f4, PySem.W.fnOf "_law_twin" "_law_twin" (defArgs st__law_twin) (defBody st__law_twin) (defScope st__law_twin) .none kV4 dc4 pm4 an4 cd4 ct4, f5, PySem.W.fnOf "_law_due" "_law_due" (defArgs st__law_due) (defBody st__law_due) (defScope st__law_due) .none kV5 dc5 pm5 an5 cd5 ct5, f6, PySem.W.fnOf "_law_shuffled" "_law_shuffled" (defArgs st__law_shuffled) (defBody st__law_shuffled) (defScope st__law_shuffled) .none kV6 dc6 pm6 an6 cd6 ct6, f7, PySem.W.fnOf "_law_card" "_law_card" (defArgs st__law_card) (defBody st__law_card) (defScope st__law_card) .none kV7 dc7 pm7 an7 cd7 ct7, f8, PySem.W.fnOf "_law_cards" "_law_cards" (defArgs st__law_cards) (defBody st__law_cards) (defScope st__law_cards) .none kV8 dc8 pm8 an8 cd8 ct8, fa, PySem.W.fnOf "law" "law" (defArgs st_law) (defBody st_law) (defScope st_law) .none kV9 dc9 pm9 an9 cd9 ct9⟩ := ⟨F1, PySem.W.mg_of X G a1, b1, F2, PySem.W.mg_of X G a2, b2, F3, PySem.W.mg_of X G a3, b3, F4, PySem.W.mg_of X G a4, b4, F5, PySem.W.mg_of X G a5, b5, F6, PySem.W.mg_of X G a6, b6, F7, PySem.W.mg_of X G a7, b7, F8, PySem.W.mg_of X G a8, b8, F9, PySem.W.mg_of X G a9, b9, PySem.W.mg_none_of X G z1, PySem.W.mg_none_of X G z2, PySem.W.mg_none_of X G z3, PySem.W.mg_none_of X G z4, PySem.W.mg_none_of X G z5, PySem.W.mg_none_of X G z6⟩
  exact ⟨_, fun s v => .of_eq rfl, fun base _ _ hB => (ok_law A).imp fun vs H Q E h => law_imp law_true h⟩
end K08
open PySem PySem.W PyProof.Rows
set_option maxRecDepth 100000 in
set_option maxHeartbeats 0 in
theorem PySem.Challenge.cw_palmhall_k08_cards_put_together_holds : PySem.Challenge.rw_palmhall_k08_cards_put_together.Holds := by
  w_on; o_law; k_head; (case hw => w_witness2)
  k_fill
  refine VL.walk (l := PySem.Challenge.rw_palmhall_k08_cards_put_together) (k := 4) rfl rfl ⟨rfl, by decide, by decide⟩ (fun w h Y => PySem.W.kIn_of Y) ?T ?F
  case T => intro w; kernel_rfl
  case F =>
    intro w mg fa h KX G hmg
    refine' K08.all_mk KX G hmg ?a1 ?l1 ?c1 ?k1 ?a2 ?l2 ?c2 ?k2 ?a3 ?l3 ?c3 ?k3 ?a4 ?l4 ?c4 ?k4 ?a5 ?l5 ?c5 ?k5 ?a6 ?l6 ?c6 ?k6 ?a7 ?l7 ?c7 ?k7 ?a8 ?l8 ?c8 ?k8 ?a9 ?l9 ?c9 ?k9 ?z1 ?z2 ?z3 ?z4 ?z5 ?z6
    (case a1 => k_is)
    (case l1 => k_is)
    (case c1 => k_is)
    (case k1 => k_is)
    (case a2 => k_is)
    (case l2 => k_is)
    (case c2 => k_is)
    (case k2 => k_is)
    (case a3 => k_is)
    (case l3 => k_is)
    (case c3 => k_is)
    (case k3 => k_is)
    (case a4 => k_is)
    (case l4 => k_is)
    (case c4 => k_is)
    (case k4 => k_is)
    (case a5 => k_is)
    (case l5 => k_is)
    (case c5 => k_is)
    (case k5 => k_is)
    (case a6 => k_is)
    (case l6 => k_is)
    (case c6 => k_is)
    (case k6 => k_is)
    (case a7 => k_is)
    (case l7 => k_is)
    (case c7 => k_is)
    (case k7 => k_is)
    (case a8 => k_is)
    (case l8 => k_is)
    (case c8 => k_is)
    (case k8 => k_is)
    (case a9 => k_is)
    (case l9 => k_is)
    (case c9 => k_is)
    (case k9 => k_is)
    (case z1 => k_is)
    (case z2 => k_is)
    (case z3 => k_is)
    (case z4 => k_is)
    (case z5 => k_is)
    (case z6 => k_is)

end
