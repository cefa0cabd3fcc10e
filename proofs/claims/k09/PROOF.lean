import PyProof.Rows.All
import Wide.All
import OpenK.AllK
import Wide.FinOn
import HandS.ForMost
import HandS.ForExc
import HandS.Deep
import HandS.CallSlots
import HandS.Lambda
import KE.KNest
import KE.KDictKeyed
import KE.KeyNested
import HandS.TupAny
import HandS.Wide
import HandS.IsInst
import HandS.Walk
import HandS.Zip
import HandS.Text
import KE.GoesEnum
import HandS.More
import HandS.EndTab
import HandS.Style
import HandS.SetFor
import KE.SortData
import KE.KDictZip
import PyProof.ListNew
import KE.KDictDisplayH
import HandS.SortInts
import KE.DataMinMax
import HandS.Flow
import HandS.HotCalls
import HandS.ExcIs
import KE.DataFind
import KE.KDictLaws
import KE.SortKeyHeap
import HandS.SortKw
import HandS.Sort
import PyProof.LongRange
import PyProof.ListRange
import HandS.Conv
import HandS.WideBits
import PySem.Challenge.RW_palmhall_k09_best_fits
section
set_option Elab.async false
set_option linter.all false
set_option maxRecDepth 100000
namespace VL
open PySem PySem.Spec PyProof.Rows L2

noncomputable abbrev Fg := PySem.W.Frag
noncomputable abbrev Sg := List (Option V)
noncomputable abbrev FP := Nat → List Addr
inductive Tr where
  | dat (d : PyData)
  | tup (ts : List Tr)
  | lst (ts : List Tr)
  | dk (kvs : List (Key × Tr))
  | dt (kvs : List (List Key × Tr))
  | ins (c : Str) (fs : List (Str × Tr))
  /-- dicts that are walked and no more written -/
  | fk (kvs : List (Key × PyData))
  | ft (kvs : List (List Key × PyData))
  /-- a value that is known, of no meaning; one that is not known -/
  | raw (v : V)
  /-- a dict of data that is frozen: it may stand in several trees -/
  | sd (kvs : List (Key × PyData))
  | hole
  /-- a dict whose keys are tuples of whole numbers and of such tuples; such a one, frozen -/
  | dn (kvs : List (NestedKey × PyData))
  | sn (kvs : List (NestedKey × PyData))
inductive Md where
  | free | pin | lock
  /-- a pinned tree of which a local names the part at p -/
  | bor (p : List Nat)
noncomputable def Md.pn : Md → Bool
  | .pin => true
  | .bor _ => true
  | _ => false
inductive Sl where
  | no
  | val (d : PyData)
  | own (m : Md) (t : Tr)
  /-- the part at p of slot i, while that is borrowed at p -/
  | al (i : Nat) (p : List Nat)
noncomputable abbrev Rho := List Sl

noncomputable def sg (σ : Sg) (i : Nat) : Option V := (σ[i]?).getD none
theorem sg_some {σ : Sg} {i : Nat} {v : V} : sg σ i = some v ↔ σ[i]? = some (some v) := by
  unfold sg
  cases h : σ[i]? with
  | none => simp
  | some x => simp

theorem rd_mono {H H' : Hp} {a : Addr} {u : HO} (e : Same H H') (h : Rd H a u) : Rd H' a u := by
  rcases h with h | ⟨o, h⟩
  · exact .inl (e _ _ h)
  · exact .inr ⟨o, e _ _ h⟩
noncomputable def isInt : PyData → Bool
  | .int _ => true
  | _ => false
noncomputable def kOk (ds : List PyData) : Bool := decide (ds.length ≤ 1) || ds.all isInt
noncomputable def TupA (K : Fg) (H : Hp) (a : Addr) (xs : List V) (ds : List PyData) : Prop :=
  H a = some (.tup xs) ∨ (kOk ds = true ∧ ∃ (o : Obj) (its : Array Value) (n : Nat), K.lookup a = some o ∧ o.cls = .type "tuple" ∧ o.data = .seq its n ∧ its.size ≤ sizeLine ∧ Vals xs its.toList)
theorem TupA.sq {K : Fg} {H : Hp} {a : Addr} {xs : List V} {ds : List PyData} (h : TupA K H a xs ds) : SqT K H a xs := by
  rcases h with h | ⟨_, h⟩
  · exact SqT.of h
  · exact .inr h
theorem TupA.mono {K : Fg} {H H' : Hp} {a : Addr} {xs : List V} {ds : List PyData} (h : TupA K H a xs ds) (s : Same H H') : TupA K H' a xs ds := by
  rcases h with h | h
  · exact .inl (s _ _ h)
  · exact .inr h
mutual
/-- data: as Dp of the layer, but that a list stands in H -/
inductive Dq (K : Fg) (H : Hp) : V → PyData → Prop
  | non : Dq K H .non .none
  | bl (b : Bool) : Dq K H (.bl b) (.bool b)
  | int (i : Int) : Dq K H (.int i) (.int i)
  | str (x : Str) : Dq K H (.str x) (.str x)
  | lst {a : Addr} {xs : List V} {ds : List PyData} : Rd H a (.lst xs) → DqAll K H xs ds → Dq K H (.ref a) (.list ds)
  | tups {a : Addr} {xs : List V} {ds : List PyData} : TupA K H a xs ds → DqAll K H xs ds → Dq K H (.ref a) (.tuple ds)
  /-- the script: a list of ints that may stand in the written part; told as a dict, so that nothing but its items and its length is asked -/
  | scr {a : Addr} {ns : List Int} : SqL K H a (ns.map V.int) → Dq K H (.ref a) (.dict (ns.map fun i => (.int i, .none)))
inductive DqAll (K : Fg) (H : Hp) : List V → List PyData → Prop
  | nil : DqAll K H [] []
  | cons {v : V} {vs : List V} {d : PyData} {ds : List PyData} : Dq K H v d → DqAll K H vs ds → DqAll K H (v :: vs) (d :: ds)
end
theorem Dq.tup {K : Fg} {H : Hp} {a : Addr} {xs : List V} {ds : List PyData} (h : H a = some (.tup xs)) (ha : DqAll K H xs ds) : Dq K H (.ref a) (.tuple ds) := .tups (.inl h) ha
mutual
theorem dq_dp {K : Fg} {F : Hp} : ∀ (d : PyData) (v : V), d.canLay0 = true → Dq K F v d → L2.Dp K F v d
  | .none, _, _, h => by cases h; exact .non
  | .bool b, _, _, h => by cases h; exact .bl b
  | .int i, _, _, h => by cases h; exact .int i
  | .str x, _, _, h => by cases h; exact .str x
  | .list ds, _, c, h => by
    cases h with
    | lst hs ha => exact .lst (.inl hs) (dqAll_dp ds _ (by simpa [PyData.canLay0] using c) ha)
  | .tuple ds, _, c, h => by
    cases h with
    | tups hs ha => exact .tup hs.sq (dqAll_dp ds _ (by simpa [PyData.canLay0] using c) ha)
  | .dict _, _, c, _ => by simp [PyData.canLay0] at c
theorem dqAll_dp {K : Fg} {F : Hp} : ∀ (ds : List PyData) (vs : List V), PyData.canLayAll0 ds = true → DqAll K F vs ds → L2.DpAll K F vs ds
  | [], _, _, h => by cases h; exact .nil
  | d :: ds, _, c, h => by
    have c' : d.canLay0 = true ∧ PyData.canLayAll0 ds = true := by simpa [PyData.canLayAll0] using c
    cases h with
    | cons h1 h2 => exact .cons (dq_dp d _ c'.1 h1) (dqAll_dp ds _ c'.2 h2)
end
mutual
theorem dq_mono {K : Fg} {F F' : Hp} (s : Same F F') : ∀ (d : PyData) (v : V), Dq K F v d → Dq K F' v d
  | .none, _, h => by cases h; exact .non
  | .bool b, _, h => by cases h; exact .bl b
  | .int i, _, h => by cases h; exact .int i
  | .str x, _, h => by cases h; exact .str x
  | .list ds, _, h => by
    cases h with
    | lst hs ha => exact .lst (rd_mono s hs) (dqAll_mono s ds _ ha)
  | .tuple ds, _, h => by
    cases h with
    | tups hs ha => exact .tups (hs.mono s) (dqAll_mono s ds _ ha)
  | .dict _, _, h => by
    cases h with
    | scr hs => exact .scr (s.seq hs)
theorem dqAll_mono {K : Fg} {F F' : Hp} (s : Same F F') : ∀ (ds : List PyData) (vs : List V), DqAll K F vs ds → DqAll K F' vs ds
  | [], _, h => by cases h; exact .nil
  | d :: ds, _, h => by
    cases h with
    | cons h1 h2 => exact .cons (dq_mono s d _ h1) (dqAll_mono s ds _ h2)
end
theorem dqAll_len {K : Fg} {F : Hp} : ∀ {vs : List V} {ds : List PyData}, DqAll K F vs ds → vs.length = ds.length
  | _, _, .nil => rfl
  | _, _, .cons _ t => by simp [dqAll_len t]
theorem dqAll_get {K : Fg} {F : Hp} : ∀ {vs : List V} {ds : List PyData} {i : Nat} {d : PyData}, DqAll K F vs ds → ds[i]? = some d → ∃ v, vs[i]? = some v ∧ Dq K F v d
  | _, _, _, _, .nil, e => by simp at e
  | _, _, 0, _, .cons r _, e => by simp at e; subst e; exact ⟨_, rfl, r⟩
  | _, _, i + 1, x, .cons _ t, e => by
    obtain ⟨u, h1, h2⟩ := dqAll_get (i := i) (d := x) t (by simpa using e)
    exact ⟨u, by simpa using h1, h2⟩
theorem dqAll_app {K : Fg} {F : Hp} : ∀ {vs ws : List V} {ds es : List PyData}, DqAll K F vs ds → DqAll K F ws es → DqAll K F (vs ++ ws) (ds ++ es)
  | _, _, _, _, .nil, s => s
  | _, _, _, _, .cons r t, s => .cons r (dqAll_app t s)
theorem dqAll_take {K : Fg} {F : Hp} : ∀ {vs : List V} {ds : List PyData} (n : Nat), DqAll K F vs ds → DqAll K F (vs.take n) (ds.take n)
  | _, _, 0, _ => .nil
  | _, _, _ + 1, .nil => .nil
  | _, _, n + 1, .cons r t => .cons r (dqAll_take n t)
theorem dqAll_drop {K : Fg} {F : Hp} : ∀ {vs : List V} {ds : List PyData} (n : Nat), DqAll K F vs ds → DqAll K F (vs.drop n) (ds.drop n)
  | _, _, 0, r => r
  | _, _, _ + 1, .nil => .nil
  | _, _, n + 1, .cons _ t => dqAll_drop n t

noncomputable def Prs {κ : Type} (K : Fg) (F : Hp) (vs : List (κ × V)) (ds : List (κ × PyData)) : Prop := vs.map (·.1) = ds.map (·.1) ∧ DqAll K F (vs.map (·.2)) (ds.map (·.2))
theorem Prs.mono {κ : Type} {K : Fg} {F F' : Hp} {vs : List (κ × V)} {ds : List (κ × PyData)} (s : Same F F') (h : Prs K F vs ds) : Prs K F' vs ds := ⟨h.1, dqAll_mono s _ _ h.2⟩
mutual
noncomputable def nkI : NestedKey → Bool
  | .num _ => true
  | .tup ks => nkIs ks
  | .none => false
  | .text _ => false
noncomputable def nkIs : List NestedKey → Bool
  | [] => true
  | k :: ks => nkI k && nkIs ks
end
noncomputable def nkTup : NestedKey → Bool
  | .tup _ => true
  | _ => false
noncomputable def nkOk (k : NestedKey) : Bool := nkTup k && nkI k && decide (k.depth ≤ 8)
noncomputable def DnO (a : Addr) (es : List (NestedKey × Addr × V)) : HO := .ext fun h => es.length ≤ sizeLine ∧ (a == sysModules) = false ∧ ∃ (w : World) (xs : List (NestedKey × Addr × Value)),
  Paired (fun p q => p.1 = q.1 ∧ p.2.1 = q.2.1 ∧ RelV p.2.2 q.2.2) es xs ∧ ∃ (o : Obj) (rs : Array DictEntry) (ep : Nat), h.get? a = some o ∧ o.ExactDict ∧ o.data = .dict rs ep ∧
    rs.toList = xs.map (fun x => (⟨NestedKey.hash w x.1, .ref x.2.1, x.2.2⟩ : DictEntry)) ∧ (xs.map (·.1)).Nodup
theorem dnO_tbl {a : Addr} {es : List (NestedKey × Addr × V)} {ps : Array Value} : DnO a es ≠ .tbl ps := fun z => by
  unfold DnO at z
  cases z
theorem dnO_tup {a : Addr} {es : List (NestedKey × Addr × V)} {xs : List V} : DnO a es ≠ .tup xs := fun z => by
  unfold DnO at z
  cases z
noncomputable def DnOk (K : Fg) (F : Hp) (es : List (NestedKey × Addr × V)) (ds : List (NestedKey × PyData)) : Prop :=
  es.map (·.1) = ds.map (·.1) ∧ (∀ x ∈ es, nkOk x.1 = true ∧ Dq K F (.ref x.2.1) x.1.data) ∧ DqAll K F (es.map (·.2.2)) (ds.map (·.2))
theorem DnOk.mono {K : Fg} {F F' : Hp} {es : List (NestedKey × Addr × V)} {ds : List (NestedKey × PyData)} (s : Same F F') (h : DnOk K F es ds) : DnOk K F' es ds :=
  ⟨h.1, fun x hx => ⟨(h.2.1 x hx).1, dq_mono s _ _ (h.2.1 x hx).2⟩, dqAll_mono s _ _ h.2.2⟩
noncomputable def KT (H : Hp) (b : Addr) : Prop := (∃ ks : List Key, H b = some (.tup (ks.map kV))) ∨ ∃ ps, H b = some (.tbl ps)
mutual
inductive TrOk (K : Fg) (F H : Hp) : V → Tr → List Addr → Prop
  | dat {v : V} {d : PyData} : Dq K F v d → TrOk K F H v (.dat d) []
  | tup {a : Addr} {vs : List V} {ts : List Tr} {A : List Addr} : H a = some (.tup vs) → (F a = none ∧ ∀ ks : List Key, vs ≠ ks.map kV) → TrsOk K F H vs ts A → TrOk K F H (.ref a) (.tup ts) (a :: A)
  | lst {a : Addr} {vs : List V} {ts : List Tr} {A : List Addr} : H a = some (.lst vs) → F a = none → TrsOk K F H vs ts A → TrOk K F H (.ref a) (.lst ts) (a :: A)
  | dk {a : Addr} {vs : List (Key × V)} {ts : List (Key × Tr)} {A : List Addr} : H a = some (.dK vs) → F a = none → vs.map (·.1) = ts.map (·.1) → TrsOk K F H (vs.map (·.2)) (ts.map (·.2)) A → TrOk K F H (.ref a) (.dk ts) (a :: A)
  | dt {a : Addr} {vs : List (List Key × V)} {ts : List (List Key × Tr)} {A : List Addr} : H a = some (.dT vs) → F a = none → vs.map (·.1) = ts.map (·.1) → TrsOk K F H (vs.map (·.2)) (ts.map (·.2)) A → TrOk K F H (.ref a) (.dt ts) (a :: A)
  | ins {a C dx : Addr} {c : Str} {vs : List (Str × V)} {ts : List (Str × Tr)} {A : List Addr} : H a = some (.ins C dx vs) → F a = none → PySem.W.nsIn K mainGlobals c = some (some (.ref C)) → vs.map (·.1) = ts.map (·.1) → TrsOk K F H (vs.map (·.2)) (ts.map (·.2)) A → TrOk K F H (.ref a) (.ins c ts) (a :: A)
  | fk {a : Addr} {o : Obj} {vs : List (Key × V)} {ds : List (Key × PyData)} : H a = some (.frz o (.dK vs)) → F a = none → Prs K F vs ds → TrOk K F H (.ref a) (.fk ds) [a]
  | ft {a : Addr} {o : Obj} {vs : List (List Key × V)} {ds : List (List Key × PyData)} : H a = some (.frz o (.dT vs)) → F a = none → Prs K F vs ds → TrOk K F H (.ref a) (.ft ds) [a]
  | raw {v : V} : TrOk K F H v (.raw v) []
  | sd {a : Addr} {o : Obj} {vs : List (Key × V)} {ds : List (Key × PyData)} : F a = some (.frz o (.dK vs)) → Prs K F vs ds → TrOk K F H (.ref a) (.sd ds) []
  | hole {v : V} : TrOk K F H v .hole []
  | dn {a : Addr} {es : List (NestedKey × Addr × V)} {ds : List (NestedKey × PyData)} : H a = some (DnO a es) → F a = none → DnOk K F es ds → TrOk K F H (.ref a) (.dn ds) [a]
  | sn {a : Addr} {o : Obj} {es : List (NestedKey × Addr × V)} {ds : List (NestedKey × PyData)} : F a = some (.frz o (DnO a es)) → DnOk K F es ds → TrOk K F H (.ref a) (.sn ds) []
inductive TrsOk (K : Fg) (F H : Hp) : List V → List Tr → List Addr → Prop
  | nil : TrsOk K F H [] [] []
  | cons {v : V} {vs : List V} {t : Tr} {ts : List Tr} {A B : List Addr} : TrOk K F H v t A → TrsOk K F H vs ts B → TrsOk K F H (v :: vs) (t :: ts) (A ++ B)
end
section
variable {K : Fg} {F H F' H' : Hp}
mutual
theorem TrOk.mem : ∀ {v : V} {t : Tr} {A : List Addr}, TrOk K F H v t A → ∀ b ∈ A, H b ≠ none ∧ F b = none
  | _, _, _, .dat _, _, h => nomatch h
  | _, _, _, .tup e f r, b, h => by
    rcases List.mem_cons.mp h with rfl | h
    · exact ⟨(by rw [e]; exact fun z => nomatch z), f.1⟩
    · exact TrsOk.mem r b h
  | _, _, _, .lst e f r, b, h => by
    rcases List.mem_cons.mp h with rfl | h
    · exact ⟨(by rw [e]; exact fun z => nomatch z), f⟩
    · exact TrsOk.mem r b h
  | _, _, _, .dk e f _ r, b, h => by
    rcases List.mem_cons.mp h with rfl | h
    · exact ⟨(by rw [e]; exact fun z => nomatch z), f⟩
    · exact TrsOk.mem r b h
  | _, _, _, .dt e f _ r, b, h => by
    rcases List.mem_cons.mp h with rfl | h
    · exact ⟨(by rw [e]; exact fun z => nomatch z), f⟩
    · exact TrsOk.mem r b h
  | _, _, _, .ins e f _ _ r, b, h => by
    rcases List.mem_cons.mp h with rfl | h
    · exact ⟨(by rw [e]; exact fun z => nomatch z), f⟩
    · exact TrsOk.mem r b h
  | _, _, _, .fk e f _, b, h => by
    rw [List.mem_singleton.mp h]
    exact ⟨(by rw [e]; exact fun z => nomatch z), f⟩
  | _, _, _, .ft e f _, b, h => by
    rw [List.mem_singleton.mp h]
    exact ⟨(by rw [e]; exact fun z => nomatch z), f⟩
  | _, _, _, .raw, _, h => nomatch h
  | _, _, _, .sd _ _, _, h => nomatch h
  | _, _, _, .hole, _, h => nomatch h
  | _, _, _, .sn _ _, _, h => nomatch h
  | _, _, _, .dn e f _, b, h => by
    rw [List.mem_singleton.mp h]
    exact ⟨(by rw [e]; exact fun z => nomatch z), f⟩
theorem TrsOk.mem : ∀ {vs : List V} {ts : List Tr} {A : List Addr}, TrsOk K F H vs ts A → ∀ b ∈ A, H b ≠ none ∧ F b = none
  | _, _, _, .nil, _, h => nomatch h
  | _, _, _, .cons q r, b, h => by
    rcases List.mem_append.mp h with h | h
    · exact TrOk.mem q b h
    · exact TrsOk.mem r b h
end
mutual
theorem TrOk.ntb : ∀ {v : V} {t : Tr} {A : List Addr}, TrOk K F H v t A → ∀ b ∈ A, ∀ ps, H b ≠ some (.tbl ps)
  | _, _, _, .dat _, _, h => nomatch h
  | _, _, _, .tup e f r, b, h => by
    rcases List.mem_cons.mp h with rfl | h
    · intro ps z; rw [e] at z; cases z
    · exact TrsOk.ntb r b h
  | _, _, _, .lst e f r, b, h => by
    rcases List.mem_cons.mp h with rfl | h
    · intro ps z; rw [e] at z; cases z
    · exact TrsOk.ntb r b h
  | _, _, _, .dk e f _ r, b, h => by
    rcases List.mem_cons.mp h with rfl | h
    · intro ps z; rw [e] at z; cases z
    · exact TrsOk.ntb r b h
  | _, _, _, .dt e f _ r, b, h => by
    rcases List.mem_cons.mp h with rfl | h
    · intro ps z; rw [e] at z; cases z
    · exact TrsOk.ntb r b h
  | _, _, _, .ins e f _ _ r, b, h => by
    rcases List.mem_cons.mp h with rfl | h
    · intro ps z; rw [e] at z; cases z
    · exact TrsOk.ntb r b h
  | _, _, _, .fk e f _, b, h => by
    rw [List.mem_singleton.mp h]
    intro ps z; rw [e] at z; cases z
  | _, _, _, .ft e f _, b, h => by
    rw [List.mem_singleton.mp h]
    intro ps z; rw [e] at z; cases z
  | _, _, _, .raw, _, h => nomatch h
  | _, _, _, .sd _ _, _, h => nomatch h
  | _, _, _, .hole, _, h => nomatch h
  | _, _, _, .sn _ _, _, h => nomatch h
  | _, _, _, .dn e f _, b, h => by
    rw [List.mem_singleton.mp h]
    intro ps z; rw [e] at z; exact dnO_tbl (Option.some.inj z)
theorem TrsOk.ntb : ∀ {vs : List V} {ts : List Tr} {A : List Addr}, TrsOk K F H vs ts A → ∀ b ∈ A, ∀ ps, H b ≠ some (.tbl ps)
  | _, _, _, .nil, _, h => nomatch h
  | _, _, _, .cons q r, b, h => by
    rcases List.mem_append.mp h with h | h
    · exact TrOk.ntb q b h
    · exact TrsOk.ntb r b h
end
mutual
theorem TrOk.nkt : ∀ {v : V} {t : Tr} {A : List Addr}, TrOk K F H v t A → ∀ b ∈ A, ¬ KT H b
  | _, _, _, .dat _, _, h => nomatch h
  | _, _, _, .tup e f r, b, h => by
    rcases List.mem_cons.mp h with rfl | h
    · rintro (⟨ks, z⟩ | ⟨ps, z⟩)
      · rw [e] at z; exact f.2 ks (by injection z with z; injection z)
      · rw [e] at z; cases z
    · exact TrsOk.nkt r b h
  | _, _, _, .lst e f r, b, h => by
    rcases List.mem_cons.mp h with rfl | h
    · rintro (⟨ks, z⟩ | ⟨ps, z⟩) <;> rw [e] at z <;> cases z
    · exact TrsOk.nkt r b h
  | _, _, _, .dk e f _ r, b, h => by
    rcases List.mem_cons.mp h with rfl | h
    · rintro (⟨ks, z⟩ | ⟨ps, z⟩) <;> rw [e] at z <;> cases z
    · exact TrsOk.nkt r b h
  | _, _, _, .dt e f _ r, b, h => by
    rcases List.mem_cons.mp h with rfl | h
    · rintro (⟨ks, z⟩ | ⟨ps, z⟩) <;> rw [e] at z <;> cases z
    · exact TrsOk.nkt r b h
  | _, _, _, .ins e f _ _ r, b, h => by
    rcases List.mem_cons.mp h with rfl | h
    · rintro (⟨ks, z⟩ | ⟨ps, z⟩) <;> rw [e] at z <;> cases z
    · exact TrsOk.nkt r b h
  | _, _, _, .fk e f _, b, h => by
    rw [List.mem_singleton.mp h]
    rintro (⟨ks, z⟩ | ⟨ps, z⟩) <;> rw [e] at z <;> cases z
  | _, _, _, .ft e f _, b, h => by
    rw [List.mem_singleton.mp h]
    rintro (⟨ks, z⟩ | ⟨ps, z⟩) <;> rw [e] at z <;> cases z
  | _, _, _, .raw, _, h => nomatch h
  | _, _, _, .sd _ _, _, h => nomatch h
  | _, _, _, .hole, _, h => nomatch h
  | _, _, _, .sn _ _, _, h => nomatch h
  | _, _, _, .dn e f _, b, h => by
    rw [List.mem_singleton.mp h]
    rintro (⟨ks, z⟩ | ⟨ps, z⟩) <;> rw [e] at z
    · exact dnO_tup (Option.some.inj z)
    · exact dnO_tbl (Option.some.inj z)
theorem TrsOk.nkt : ∀ {vs : List V} {ts : List Tr} {A : List Addr}, TrsOk K F H vs ts A → ∀ b ∈ A, ¬ KT H b
  | _, _, _, .nil, _, h => nomatch h
  | _, _, _, .cons q r, b, h => by
    rcases List.mem_append.mp h with h | h
    · exact TrOk.nkt q b h
    · exact TrsOk.nkt r b h
end
mutual
theorem TrOk.move (s : Same F F') : ∀ {v : V} {t : Tr} {A : List Addr}, TrOk K F H v t A → (∀ b ∈ A, H' b = H b ∧ F' b = none) → TrOk K F' H' v t A
  | _, _, _, .dat d, _ => .dat (dq_mono s _ _ d)
  | _, _, _, .tup e f r, h => .tup ((h _ List.mem_cons_self).1.trans e) ⟨(h _ List.mem_cons_self).2, f.2⟩ (TrsOk.move s r fun b z => h b (List.mem_cons_of_mem _ z))
  | _, _, _, .lst e f r, h => .lst ((h _ List.mem_cons_self).1.trans e) (h _ List.mem_cons_self).2 (TrsOk.move s r fun b z => h b (List.mem_cons_of_mem _ z))
  | _, _, _, .dk e f k r, h => .dk ((h _ List.mem_cons_self).1.trans e) (h _ List.mem_cons_self).2 k (TrsOk.move s r fun b z => h b (List.mem_cons_of_mem _ z))
  | _, _, _, .dt e f k r, h => .dt ((h _ List.mem_cons_self).1.trans e) (h _ List.mem_cons_self).2 k (TrsOk.move s r fun b z => h b (List.mem_cons_of_mem _ z))
  | _, _, _, .ins e f kc k r, h => .ins ((h _ List.mem_cons_self).1.trans e) (h _ List.mem_cons_self).2 kc k (TrsOk.move s r fun b z => h b (List.mem_cons_of_mem _ z))
  | _, _, _, .fk e f r, h => .fk ((h _ List.mem_cons_self).1.trans e) (h _ List.mem_cons_self).2 (r.mono s)
  | _, _, _, .ft e f r, h => .ft ((h _ List.mem_cons_self).1.trans e) (h _ List.mem_cons_self).2 (r.mono s)
  | _, _, _, .raw, _ => .raw
  | _, _, _, .sd e r, _ => .sd (s _ _ e) (r.mono s)
  | _, _, _, .hole, _ => .hole
  | _, _, _, .dn e f r, h => .dn ((h _ List.mem_cons_self).1.trans e) (h _ List.mem_cons_self).2 (r.mono s)
  | _, _, _, .sn e r, _ => .sn (s _ _ e) (r.mono s)
theorem TrsOk.move (s : Same F F') : ∀ {vs : List V} {ts : List Tr} {A : List Addr}, TrsOk K F H vs ts A → (∀ b ∈ A, H' b = H b ∧ F' b = none) → TrsOk K F' H' vs ts A
  | _, _, _, .nil, _ => .nil
  | _, _, _, .cons q r, h => .cons (TrOk.move s q fun b z => h b (List.mem_append_left _ z)) (TrsOk.move s r fun b z => h b (List.mem_append_right _ z))
end
mutual
/-- as data -/
noncomputable def Tr.toD : Tr → Option PyData
  | .dat d => some d
  | .tup ts => (Tr.toDs ts).map .tuple
  | .lst ts => (Tr.toDs ts).map .list
  | .dk _ => none
  | .dt _ => none
  | .ins _ _ => none
  | .fk _ => none
  | .ft _ => none
  | .raw _ => none
  | .sd _ => none
  | .hole => none
  | .dn _ => none
  | .sn _ => none
noncomputable def Tr.toDs : List Tr → Option (List PyData)
  | [] => some []
  | t :: ts => match Tr.toD t, Tr.toDs ts with
    | some d, some ds => some (d :: ds)
    | _, _ => none
end
noncomputable def frz (F H : Hp) (A : List Addr) : Hp := fun b => if b ∈ A then H b else F b
theorem frz_same {A : List Addr} (hA : ∀ b ∈ A, F b = none) : Same F (frz F H A) := fun b o e => by
  unfold frz
  rw [if_neg fun z => by rw [hA b z] at e; cases e]
  exact e
theorem frz_sub {A : List Addr} (s : Same F H) : Same (frz F H A) H := fun b o e => by
  unfold frz at e
  split at e
  · exact e
  · exact s b o e
mutual
/-- over G: what is frozen (of G, at least) reads as data -/
theorem TrOk.dp {G : Hp} (s : Same F G) : ∀ {v : V} {t : Tr} {A : List Addr} {d : PyData}, TrOk K F H v t A → (∀ b ∈ A, G b = H b) → t.toD = some d → Dq K G v d
  | _, _, _, _, .dat q, _, e => by
    simp only [Tr.toD] at e; cases e
    exact dq_mono s _ _ q
  | _, .tup ts, _, d, .tup q _ r, h, e => by
    simp only [Tr.toD] at e
    cases z : Tr.toDs ts with
    | none => rw [z] at e; cases e
    | some ds =>
      rw [z] at e; cases e
      exact .tup ((h _ List.mem_cons_self).trans q) (TrsOk.dp s r (fun b z => h b (List.mem_cons_of_mem _ z)) z)
  | _, .lst ts, _, d, .lst q _ r, h, e => by
    simp only [Tr.toD] at e
    cases z : Tr.toDs ts with
    | none => rw [z] at e; cases e
    | some ds =>
      rw [z] at e; cases e
      exact .lst (.inl ((h _ List.mem_cons_self).trans q)) (TrsOk.dp s r (fun b z => h b (List.mem_cons_of_mem _ z)) z)
  | _, _, _, _, .dk .., _, e => by simp [Tr.toD] at e
  | _, _, _, _, .dt .., _, e => by simp [Tr.toD] at e
  | _, _, _, _, .ins .., _, e => by simp [Tr.toD] at e
  | _, _, _, _, .fk .., _, e => by simp [Tr.toD] at e
  | _, _, _, _, .ft .., _, e => by simp [Tr.toD] at e
  | _, _, _, _, .raw, _, e => by simp [Tr.toD] at e
  | _, _, _, _, .sd _ _, _, e => by simp [Tr.toD] at e
  | _, _, _, _, .hole, _, e => by simp [Tr.toD] at e
  | _, _, _, _, .dn .., _, e => by simp [Tr.toD] at e
  | _, _, _, _, .sn .., _, e => by simp [Tr.toD] at e
theorem TrsOk.dp {G : Hp} (s : Same F G) : ∀ {vs : List V} {ts : List Tr} {A : List Addr} {ds : List PyData}, TrsOk K F H vs ts A → (∀ b ∈ A, G b = H b) → Tr.toDs ts = some ds → DqAll K G vs ds
  | _, _, _, _, .nil, _, e => by
    simp only [Tr.toDs] at e; cases e
    exact .nil
  | _, t :: ts, _, _, .cons q r, h, e => by
    simp only [Tr.toDs] at e
    cases z : t.toD with
    | none => rw [z] at e; cases e
    | some d =>
      cases y : Tr.toDs ts with
      | none => rw [z, y] at e; cases e
      | some ds' =>
        rw [z, y] at e; cases e
        exact .cons (TrOk.dp s q (fun b z => h b (List.mem_append_left _ z)) z) (TrsOk.dp s r (fun b z => h b (List.mem_append_right _ z)) y)
end
end
theorem TrsOk.len {K : Fg} {F H : Hp} : ∀ {vs : List V} {ts : List Tr} {A : List Addr}, TrsOk K F H vs ts A → vs.length = ts.length
  | _, _, _, .nil => rfl
  | _, _, _, .cons _ t => by simp [TrsOk.len t]
theorem trs_dat {K : Fg} {F H : Hp} : ∀ {vs : List V} {ds : List PyData}, DqAll K F vs ds → TrsOk K F H vs (ds.map .dat) []
  | _, _, .nil => .nil
  | _, _, .cons h t => by
    have := TrsOk.cons (TrOk.dat (H := H) h) (trs_dat (H := H) t)
    simpa using this
theorem trs_dat' {K : Fg} {F H : Hp} : ∀ {vs : List V} {ds : List PyData} {A : List Addr}, TrsOk K F H vs (ds.map .dat) A → A = [] ∧ DqAll K F vs ds
  | _, [], _, .nil => ⟨rfl, .nil⟩
  | _, d :: ds, _, .cons q r => by
    cases q with
    | dat q =>
      obtain ⟨e, z⟩ := trs_dat' (ds := ds) r
      subst e
      exact ⟨rfl, .cons q z⟩
theorem toDs_dat : ∀ ds : List PyData, Tr.toDs (ds.map .dat) = some ds
  | [] => by simp [Tr.toDs]
  | d :: ds => by simp [Tr.toDs, Tr.toD, toDs_dat ds]

noncomputable def kids : Tr → List Tr
  | .dat _ => []
  | .tup ts => ts
  | .lst ts => ts
  | .dk kvs => kvs.map (·.2)
  | .dt kvs => kvs.map (·.2)
  | .ins _ fs => fs.map (·.2)
  | .fk _ => []
  | .ft _ => []
  | .raw _ => []
  | .sd _ => []
  | .hole => []
  | .dn _ => []
  | .sn _ => []
noncomputable def setSnd {κ : Type} : List (κ × Tr) → Nat → Tr → List (κ × Tr)
  | [], _, _ => []
  | (k, _) :: r, 0, t => (k, t) :: r
  | p :: r, j + 1, t => p :: setSnd r j t
noncomputable def setKid : Tr → Nat → Tr → Tr
  | .dat d, _, _ => .dat d
  | .tup ts, j, t => .tup (ts.set j t)
  | .lst ts, j, t => .lst (ts.set j t)
  | .dk kvs, j, t => .dk (setSnd kvs j t)
  | .dt kvs, j, t => .dt (setSnd kvs j t)
  | .ins C fs, j, t => .ins C (setSnd fs j t)
  | .fk d, _, _ => .fk d
  | .ft d, _, _ => .ft d
  | .raw d, _, _ => .raw d
  | .sd d, _, _ => .sd d
  | .hole, _, _ => .hole
  | .dn d, _, _ => .dn d
  | .sn d, _, _ => .sn d
noncomputable def Tr.at : Tr → List Nat → Option Tr
  | t, [] => some t
  | t, j :: p => match (kids t)[j]? with
    | some k => k.at p
    | none => none
noncomputable def Tr.put : Tr → List Nat → Tr → Tr
  | _, [], t' => t'
  | t, j :: p, t' => match (kids t)[j]? with
    | some k => setKid t j (k.put p t')
    | none => t
noncomputable def kidsV (H : Hp) : V → List V
  | .ref a => match H a with
    | some (.tup vs) => vs
    | some (.lst vs) => vs
    | some (.dK kvs) => kvs.map (·.2)
    | some (.dT kvs) => kvs.map (·.2)
    | some (.ins _ _ fs) => fs.map (·.2)
    | _ => []
  | _ => []
noncomputable def pathV (H : Hp) : V → List Nat → Option V
  | v, [] => some v
  | v, j :: p => match (kidsV H v)[j]? with
    | some w => pathV H w p
    | none => none
theorem setSnd_fst {κ : Type} : ∀ (l : List (κ × Tr)) (j : Nat) (t : Tr), (setSnd l j t).map (·.1) = l.map (·.1)
  | [], _, _ => rfl
  | (k, _) :: r, 0, t => rfl
  | p :: r, j + 1, t => by simp [setSnd, setSnd_fst r j t]
theorem setSnd_snd {κ : Type} : ∀ (l : List (κ × Tr)) (j : Nat) (t : Tr), (setSnd l j t).map (·.2) = (l.map (·.2)).set j t
  | [], _, _ => rfl
  | (k, _) :: r, 0, t => rfl
  | p :: r, j + 1, t => by simp [setSnd, setSnd_snd r j t]
section
variable {K : Fg} {F H : Hp}
theorem trs_focus : ∀ {vs : List V} {ts : List Tr} {A : List Addr} {j : Nat} {t : Tr}, TrsOk K F H vs ts A → ts[j]? = some t →
    ∃ v pre B post, vs[j]? = some v ∧ A = pre ++ (B ++ post) ∧ TrOk K F H v t B ∧ ∀ F' H' t' B', Same F F' → (∀ b, b ∈ pre ∨ b ∈ post → H' b = H b ∧ F' b = none) → TrOk K F' H' v t' B' → TrsOk K F' H' vs (ts.set j t') (pre ++ (B' ++ post))
  | _, _, _, j, t, .nil, h => by simp at h
  | _, _, _, 0, t, @TrsOk.cons _ _ _ v vs t0 ts A B q r, h => by
    simp at h
    subst h
    exact ⟨v, [], A, B, rfl, rfl, q, fun F' H' t' B' s hb q' => by
      have z := TrsOk.cons q' (r.move s fun b z => hb b (.inr z))
      exact z⟩
  | _, _, _, j + 1, t, @TrsOk.cons _ _ _ v0 vs t0 ts A B q r, h => by
    obtain ⟨v, pre, B1, post, h1, h2, h3, h4⟩ := trs_focus (j := j) r (by simpa using h)
    refine ⟨v, A ++ pre, B1, post, by simpa using h1, by rw [h2]; simp, h3, fun F' H' t' B' s hb q' => ?_⟩
    have z := TrsOk.cons (q.move s fun b z => hb b (.inl (List.mem_append_left _ z))) (h4 F' H' t' B' s (fun b z => hb b (z.imp_left (List.mem_append_right _))) q')
    rw [List.append_assoc]
    exact z
theorem trs_repl : ∀ {vs : List V} {ts : List Tr} {A : List Addr} {j : Nat} {t : Tr}, TrsOk K F H vs ts A → ts[j]? = some t →
    ∃ v pre B post, vs[j]? = some v ∧ A = pre ++ (B ++ post) ∧ TrOk K F H v t B ∧ ∀ F' H' v' t' B', Same F F' → (∀ b, b ∈ pre ∨ b ∈ post → H' b = H b ∧ F' b = none) → TrOk K F' H' v' t' B' → TrsOk K F' H' (vs.set j v') (ts.set j t') (pre ++ (B' ++ post))
  | _, _, _, j, t, .nil, h => by simp at h
  | _, _, _, 0, t, @TrsOk.cons _ _ _ v vs t0 ts A B q r, h => by
    simp at h
    subst h
    exact ⟨v, [], A, B, rfl, rfl, q, fun F' H' v' t' B' s hb q' => by
      have z := TrsOk.cons q' (r.move s fun b z => hb b (.inr z))
      exact z⟩
  | _, _, _, j + 1, t, @TrsOk.cons _ _ _ v0 vs t0 ts A B q r, h => by
    obtain ⟨v, pre, B1, post, h1, h2, h3, h4⟩ := trs_repl (j := j) r (by simpa using h)
    refine ⟨v, A ++ pre, B1, post, by simpa using h1, by rw [h2]; simp, h3, fun F' H' v' t' B' s hb q' => ?_⟩
    have z := TrsOk.cons (q.move s fun b z => hb b (.inl (List.mem_append_left _ z))) (h4 F' H' v' t' B' s (fun b z => hb b (z.imp_left (List.mem_append_right _))) q')
    rw [List.append_assoc]
    exact z
theorem focus : ∀ {p : List Nat} {v : V} {t t' : Tr} {A : List Addr}, TrOk K F H v t A → t.at p = some t' →
    ∃ v' pre B post, pathV H v p = some v' ∧ A = pre ++ (B ++ post) ∧ TrOk K F H v' t' B ∧ ∀ F' H' t'' B', Same F F' → (∀ b, b ∈ pre ∨ b ∈ post → H' b = H b ∧ F' b = none) → TrOk K F' H' v' t'' B' → TrOk K F' H' v (t.put p t'') (pre ++ (B' ++ post)) ∧ pathV H' v p = some v'
  | [], v, t, t', A, q, h => by
    simp only [Tr.at] at h
    cases h
    exact ⟨v, [], A, [], rfl, by simp, q, fun F' H' t'' B' s hb q' => ⟨by simpa [Tr.put] using q', rfl⟩⟩
  | j :: p, v, t, t', A, q, h => by
    simp only [Tr.at] at h
    split at h
    · rename_i k hk
      cases q with
      | dat q => simp [kids] at hk
      | fk _ _ _ => simp [kids] at hk
      | ft _ _ _ => simp [kids] at hk
      | raw => simp [kids] at hk
      | sd _ _ => simp [kids] at hk
      | hole => simp [kids] at hk
      | dn _ _ _ => simp [kids] at hk
      | sn _ _ => simp [kids] at hk
      | @tup a vs ts A e f r =>
        obtain ⟨v1, pre, B, post, h1, h2, h3, h4⟩ := trs_focus r hk
        obtain ⟨v', pre', B', post', g1, g2, g3, g4⟩ := focus h3 h
        refine ⟨v', a :: (pre ++ pre'), B', post' ++ post, by simp [pathV, kidsV, e, h1, g1], by rw [h2, g2]; simp, g3, fun F' H' t'' B'' s hb q' => ?_⟩
        have ha := hb a (.inl List.mem_cons_self)
        obtain ⟨z, zp⟩ := g4 F' H' t'' B'' s (fun b z => hb b (z.imp (fun w => List.mem_cons_of_mem _ (List.mem_append_right _ w)) (List.mem_append_left _))) q'
        have y := h4 F' H' _ _ s (fun b z => hb b (z.imp (fun w => List.mem_cons_of_mem _ (List.mem_append_left _ w)) (List.mem_append_right _))) z
        refine ⟨?_, by simp [pathV, kidsV, ha.1, e, h1, zp]⟩
        simp only [Tr.put, hk, setKid]
        have x := TrOk.tup (ha.1.trans e) ⟨ha.2, f.2⟩ y
        simpa [List.append_assoc] using x
      | @lst a vs ts A e f r =>
        obtain ⟨v1, pre, B, post, h1, h2, h3, h4⟩ := trs_focus r hk
        obtain ⟨v', pre', B', post', g1, g2, g3, g4⟩ := focus h3 h
        refine ⟨v', a :: (pre ++ pre'), B', post' ++ post, by simp [pathV, kidsV, e, h1, g1], by rw [h2, g2]; simp, g3, fun F' H' t'' B'' s hb q' => ?_⟩
        have ha := hb a (.inl List.mem_cons_self)
        obtain ⟨z, zp⟩ := g4 F' H' t'' B'' s (fun b z => hb b (z.imp (fun w => List.mem_cons_of_mem _ (List.mem_append_right _ w)) (List.mem_append_left _))) q'
        have y := h4 F' H' _ _ s (fun b z => hb b (z.imp (fun w => List.mem_cons_of_mem _ (List.mem_append_left _ w)) (List.mem_append_right _))) z
        refine ⟨?_, by simp [pathV, kidsV, ha.1, e, h1, zp]⟩
        simp only [Tr.put, hk, setKid]
        have x := TrOk.lst (ha.1.trans e) ha.2 y
        simpa [List.append_assoc] using x
      | @dk a vs ts A e f kk r =>
        obtain ⟨v1, pre, B, post, h1, h2, h3, h4⟩ := trs_focus r hk
        obtain ⟨v', pre', B', post', g1, g2, g3, g4⟩ := focus h3 h
        refine ⟨v', a :: (pre ++ pre'), B', post' ++ post, by simp only [pathV, kidsV, e, h1]; exact g1, by rw [h2, g2]; simp, g3, fun F' H' t'' B'' s hb q' => ?_⟩
        have ha := hb a (.inl List.mem_cons_self)
        obtain ⟨z, zp⟩ := g4 F' H' t'' B'' s (fun b z => hb b (z.imp (fun w => List.mem_cons_of_mem _ (List.mem_append_right _ w)) (List.mem_append_left _))) q'
        have y := h4 F' H' _ _ s (fun b z => hb b (z.imp (fun w => List.mem_cons_of_mem _ (List.mem_append_left _ w)) (List.mem_append_right _))) z
        refine ⟨?_, by simp only [pathV, kidsV, ha.1, e, h1]; exact zp⟩
        simp only [Tr.put, hk, setKid]
        rw [← setSnd_snd] at y
        have x := TrOk.dk (ha.1.trans e) ha.2 (by rw [setSnd_fst]; exact kk) y
        simpa [List.append_assoc] using x
      | @dt a vs ts A e f kk r =>
        obtain ⟨v1, pre, B, post, h1, h2, h3, h4⟩ := trs_focus r hk
        obtain ⟨v', pre', B', post', g1, g2, g3, g4⟩ := focus h3 h
        refine ⟨v', a :: (pre ++ pre'), B', post' ++ post, by simp only [pathV, kidsV, e, h1]; exact g1, by rw [h2, g2]; simp, g3, fun F' H' t'' B'' s hb q' => ?_⟩
        have ha := hb a (.inl List.mem_cons_self)
        obtain ⟨z, zp⟩ := g4 F' H' t'' B'' s (fun b z => hb b (z.imp (fun w => List.mem_cons_of_mem _ (List.mem_append_right _ w)) (List.mem_append_left _))) q'
        have y := h4 F' H' _ _ s (fun b z => hb b (z.imp (fun w => List.mem_cons_of_mem _ (List.mem_append_left _ w)) (List.mem_append_right _))) z
        refine ⟨?_, by simp only [pathV, kidsV, ha.1, e, h1]; exact zp⟩
        simp only [Tr.put, hk, setKid]
        rw [← setSnd_snd] at y
        have x := TrOk.dt (ha.1.trans e) ha.2 (by rw [setSnd_fst]; exact kk) y
        simpa [List.append_assoc] using x
      | @ins a C dx c vs ts A e f kc kk r =>
        obtain ⟨v1, pre, B, post, h1, h2, h3, h4⟩ := trs_focus r hk
        obtain ⟨v', pre', B', post', g1, g2, g3, g4⟩ := focus h3 h
        refine ⟨v', a :: (pre ++ pre'), B', post' ++ post, by simp only [pathV, kidsV, e, h1]; exact g1, by rw [h2, g2]; simp, g3, fun F' H' t'' B'' s hb q' => ?_⟩
        have ha := hb a (.inl List.mem_cons_self)
        obtain ⟨z, zp⟩ := g4 F' H' t'' B'' s (fun b z => hb b (z.imp (fun w => List.mem_cons_of_mem _ (List.mem_append_right _ w)) (List.mem_append_left _))) q'
        have y := h4 F' H' _ _ s (fun b z => hb b (z.imp (fun w => List.mem_cons_of_mem _ (List.mem_append_left _ w)) (List.mem_append_right _))) z
        refine ⟨?_, by simp only [pathV, kidsV, ha.1, e, h1]; exact zp⟩
        simp only [Tr.put, hk, setKid]
        rw [← setSnd_snd] at y
        have x := TrOk.ins (ha.1.trans e) ha.2 kc (by rw [setSnd_fst]; exact kk) y
        simpa [List.append_assoc] using x
    · cases h
theorem path_stays {H' : Hp} {v : V} {t t' : Tr} {A : List Addr} {p : List Nat} {w : V} (q : TrOk K F H v t A) (h : t.at p = some t') (e : pathV H v p = some w) (hb : ∀ b ∈ A, H' b = H b) : pathV H' v p = some w := by
  obtain ⟨v', pre, B, post, g1, g2, g3, g4⟩ := focus q h
  rw [g1] at e; cases e
  have hF : ∀ b ∈ A, F b = none := fun b z => (q.mem b z).2
  refine (g4 F H' t' B (Same.refl _) (fun b z => ?_) (g3.move (Same.refl _) fun b z => ?_)).2
  · have : b ∈ A := by rw [g2]; rcases z with z | z; exact List.mem_append_left _ z; exact List.mem_append_right _ (List.mem_append_right _ z)
    exact ⟨hb b this, hF b this⟩
  · have : b ∈ A := by rw [g2]; exact List.mem_append_right _ (List.mem_append_left _ z)
    exact ⟨hb b this, hF b this⟩
end

noncomputable def SlOk (K : Fg) (F H : Hp) (v : Option V) (A : List Addr) : Sl → Prop
  | .no => True
  | .val d => ∃ u, v = some u ∧ Dq K F u d
  | .own _ t => ∃ u, v = some u ∧ TrOk K F H u t A
  | .al _ _ => True
noncomputable def AlOk (H : Hp) (σ : Sg) (ρ : Rho) : Prop := ∀ (j i : Nat) p t, ρ[j]? = some (.al i p) → ρ[i]? = some (.own (.bor p) t) → ∃ t' u v, t.at p = some t' ∧ sg σ i = some u ∧ sg σ j = some v ∧ pathV H u p = some v
noncomputable def TbOk (K : Fg) (F H : Hp) : Prop := ∀ c P, PySem.W.tabIn K "price_meant" = some (c, P) → F P = none ∧ ∃ ps : Array Value, H P = some (.tbl ps) ∧ TriplesOk ps.toList ∧ ∀ (pos : Pos) (cv : Value), codeAmong pos ps.toList = some cv → ∃ c', cv = .ref c' ∧ F c' = some (LamX.CodeO c' "price_meant.<locals>.<lambda>")
theorem TbOk.mono {K : Fg} {F H F' H' : Hp} (t : TbOk K F H) (s : Same F F') (h : ∀ P ps, H P = some (.tbl ps) → F P = none → F' P = none ∧ H' P = H P) : TbOk K F' H' := fun c P e => by
  obtain ⟨h1, ps, h2, h3, h4⟩ := t c P e
  obtain ⟨g1, g2⟩ := h P ps h2 h1
  refine ⟨g1, ps, g2.trans h2, h3, fun pos cv z => ?_⟩
  obtain ⟨c', e1, e2⟩ := h4 pos cv z
  exact ⟨c', e1, s _ _ e2⟩
theorem TbOk.same {K : Fg} {F H F' H' : Hp} (t : TbOk K F H) (s : Same F F') (hs : Same H H') (h : ∀ b, F b = none → F' b ≠ none → H b = none) : TbOk K F' H' := t.mono s fun P ps h1 h2 => by
  refine ⟨?_, (hs _ _ h1).trans h1.symm⟩
  cases q : F' P with
  | none => rfl
  | some o =>
    have z := h P h2 (by rw [q]; exact fun z => nomatch z)
    rw [h1] at z
    cases z
theorem TbOk.frz {K : Fg} {F H : Hp} {A : List Addr} (t : TbOk K F H) (hA : ∀ b ∈ A, F b = none) (hn : ∀ b ∈ A, ∀ ps, H b ≠ some (.tbl ps)) : TbOk K (VL.frz F H A) H := t.mono (frz_same hA) fun P ps h1 h2 => by
  refine ⟨?_, rfl⟩
  unfold VL.frz
  rw [if_neg fun z => hn P z ps h1]
  exact h2
theorem TbOk.upd {K : Fg} {F H : Hp} {a : Addr} {o : HO} (t : TbOk K F H) (hn : ∀ ps, H a ≠ some (.tbl ps)) : TbOk K F (L2.upd H a o) := t.mono (Same.refl _) fun P ps h1 h2 => ⟨h2, upd_ne fun z => hn ps (by rw [← z]; exact h1)⟩
structure EnvOk (K : Fg) (F H : Hp) (σ : Sg) (ρ : Rho) (fp : FP) : Prop where
  sub : Same F H
  len : σ.length = ρ.length
  sl : ∀ (i : Nat) s, ρ[i]? = some s → SlOk K F H (sg σ i) (fp i) s
  nil : ∀ (i : Nat), (∀ m t, ρ[i]? ≠ some (Sl.own m t)) → fp i = []
  nd : ∀ i, (fp i).Nodup
  ap : ∀ i j b, b ∈ fp i → b ∈ fp j → i = j
  tb : TbOk K F H
  al : AlOk H σ ρ
theorem EnvOk.al' {K : Fg} {F H H' : Hp} {σ σ' : Sg} {ρ ρ' : Rho} {fp : FP} (E : EnvOk K F H σ ρ fp) (hj : ∀ (j i : Nat) p, ρ'[j]? = some (.al i p) → ρ[j]? = some (.al i p) ∧ sg σ' j = sg σ j)
    (ho : ∀ (i : Nat) p t, ρ'[i]? = some (.own (.bor p) t) → ρ[i]? = some (.own (.bor p) t) ∧ sg σ' i = sg σ i ∧ ∀ b ∈ fp i, H' b = H b) : AlOk H' σ' ρ' := fun j i p t h1 h2 => by
  obtain ⟨a1, a2⟩ := hj j i p h1
  obtain ⟨b1, b2, b3⟩ := ho i p t h2
  obtain ⟨t', u, v, c1, c2, c3, c4⟩ := E.al j i p t a1 b1
  obtain ⟨u', e, q⟩ := E.sl i _ b1
  rw [c2] at e; cases e
  exact ⟨t', u, v, c1, b2.trans c2, a2.trans c3, path_stays q c1 c4 b3⟩
noncomputable def Owns (fp : FP) (b : Addr) : Prop := ∃ i, b ∈ fp i
theorem EnvOk.owned {K : Fg} {F H : Hp} {σ : Sg} {ρ : Rho} {fp : FP} (e : EnvOk K F H σ ρ fp) {i : Nat} {b : Addr} (h : b ∈ fp i) : ∃ m t u, ρ[i]? = some (Sl.own m t) ∧ sg σ i = some u ∧ TrOk K F H u t (fp i) := by
  cases q : ρ[i]? with
  | none => rw [e.nil i fun m t z => by rw [q] at z; cases z] at h; cases h
  | some s =>
    cases s with
    | no => rw [e.nil i fun m t z => by rw [q] at z; cases z] at h; cases h
    | val d => rw [e.nil i fun m t z => by rw [q] at z; cases z] at h; cases h
    | al k p => rw [e.nil i fun m t z => by rw [q] at z; cases z] at h; cases h
    | own m t =>
      obtain ⟨u, e1, e2⟩ := e.sl i _ q
      exact ⟨m, t, u, rfl, e1, e2⟩
theorem EnvOk.there {K : Fg} {F H : Hp} {σ : Sg} {ρ : Rho} {fp : FP} (e : EnvOk K F H σ ρ fp) {b : Addr} (h : Owns fp b) : H b ≠ none ∧ F b = none := by
  obtain ⟨i, h⟩ := h
  obtain ⟨m, t, u, _, _, z⟩ := e.owned h
  exact z.mem b h
theorem EnvOk.ntb {K : Fg} {F H : Hp} {σ : Sg} {ρ : Rho} {fp : FP} (e : EnvOk K F H σ ρ fp) {b : Addr} (h : Owns fp b) : ∀ ps, H b ≠ some (.tbl ps) := by
  obtain ⟨i, h⟩ := h
  obtain ⟨m, t, u, _, _, z⟩ := e.owned h
  exact z.ntb b h

theorem EnvOk.nkt {K : Fg} {F H : Hp} {σ : Sg} {ρ : Rho} {fp : FP} (e : EnvOk K F H σ ρ fp) {b : Addr} (h : Owns fp b) : ¬ KT H b := by
  obtain ⟨i, h⟩ := h
  obtain ⟨m, t, u, _, _, z⟩ := e.owned h
  exact z.nkt b h

structure Step (K : Fg) (F H : Hp) (σ : Sg) (ρ : Rho) (fp : FP) (F' H' : Hp) (σ' : Sg) (ρ' : Rho) (fp' : FP) : Prop where
  env : EnvOk K F' H' σ' ρ' fp'
  fr : Same F F'
  nf : ∀ b, F b = none → F' b ≠ none → H b = none ∨ (Owns fp b ∨ KT H b)
  dom : ∀ b, H' b = none → H b = none
  frame : ∀ b o, H b = some o → ¬ Owns fp b → (∀ ps, o ≠ .tbl ps) → H' b = some o
  own : ∀ b, Owns fp' b → Owns fp b ∨ H b = none
  pin : ∀ (i : Nat) m t, ρ[i]? = some (Sl.own m t) → m.pn = true → sg σ' i = sg σ i ∧ ∃ m' t', ρ'[i]? = some (Sl.own m' t') ∧ m'.pn = true
  lock : ∀ (i : Nat) t, ρ[i]? = some (Sl.own .lock t) → sg σ' i = sg σ i ∧ ρ'[i]? = some (Sl.own .lock t) ∧ fp' i = fp i ∧ ∀ b ∈ fp i, H' b = H b
theorem Step.refl {K : Fg} {F H : Hp} {σ : Sg} {ρ : Rho} {fp : FP} (e : EnvOk K F H σ ρ fp) : Step K F H σ ρ fp F H σ ρ fp :=
  ⟨e, Same.refl _, fun _ h h' => absurd h h', fun _ h => h, fun _ _ h _ _ => h, fun _ h => .inl h, fun _ m o h hm => ⟨rfl, m, o, h, hm⟩, fun _ _ h => ⟨rfl, h, rfl, fun _ _ => rfl⟩⟩
theorem Step.kt {K : Fg} {F H F1 H1 : Hp} {σ σ1 : Sg} {ρ ρ1 : Rho} {fp fp1 : FP} (a : Step K F H σ ρ fp F1 H1 σ1 ρ1 fp1) {c : Addr} (z : KT H1 c) : H c = none ∨ (Owns fp c ∨ KT H c) := by
  by_cases hn : H c = none
  · exact .inl hn
  · by_cases ho : Owns fp c
    · exact .inr (.inl ho)
    · obtain ⟨u, hu⟩ := Option.ne_none_iff_exists'.mp hn
      by_cases ht : ∃ ps, u = .tbl ps
      · obtain ⟨ps, rfl⟩ := ht
        exact .inr (.inr (.inr ⟨ps, hu⟩))
      · have := a.frame c u hu ho fun ps e => ht ⟨ps, e⟩
        unfold KT at z
        rw [this, ← hu] at z
        exact .inr (.inr z)
theorem Step.trans {K : Fg} {F H F1 H1 F2 H2 : Hp} {σ σ1 σ2 : Sg} {ρ ρ1 ρ2 : Rho} {fp fp1 fp2 : FP} (a : Step K F H σ ρ fp F1 H1 σ1 ρ1 fp1) (b : Step K F1 H1 σ1 ρ1 fp1 F2 H2 σ2 ρ2 fp2) : Step K F H σ ρ fp F2 H2 σ2 ρ2 fp2 where
  env := b.env
  fr := a.fr.trans b.fr
  nf := fun c h h' => by
    by_cases q : F1 c = none
    · rcases b.nf c q h' with z | z | z
      · exact .inl (a.dom c z)
      · exact (a.own c z).symm.imp_right .inl
      · exact a.kt z
    · exact a.nf c h q
  dom := fun c h => a.dom c (b.dom c h)
  frame := fun c o h n nt => b.frame c o (a.frame c o h n nt) (fun z => (a.own c z).elim n fun q => by rw [h] at q; cases q) nt
  own := fun c h => by
    rcases b.own c h with z | z
    · exact a.own c z
    · exact .inr (a.dom c z)
  pin := fun i m o h hm => by
    obtain ⟨e1, m1, o1, h1, k1⟩ := a.pin i m o h hm
    obtain ⟨e2, m2, o2, h2, k2⟩ := b.pin i m1 o1 h1 k1
    exact ⟨e2.trans e1, m2, o2, h2, k2⟩
  lock := fun i o h => by
    obtain ⟨e1, h1, f1, g1⟩ := a.lock i o h
    obtain ⟨e2, h2, f2, g2⟩ := b.lock i o h1
    exact ⟨e2.trans e1, h2, f2.trans f1, fun b hb => (g2 b (by rw [f1]; exact hb)).trans (g1 b hb)⟩

structure EStep (K : Fg) (T : List Nat) (F H : Hp) (σ : Sg) (ρ : Rho) (fp : FP) (F' H' : Hp) (ρ' : Rho) (fp' : FP) : Prop where
  st : Step K F H σ ρ fp F' H' σ ρ' fp'
  ko : ∀ (i : Nat) m t, ρ[i]? = some (Sl.own m t) → ∃ t', ρ'[i]? = some (Sl.own m t')
  un : ∀ (i : Nat), i ∉ T → ρ'[i]? = ρ[i]? ∧ fp' i = fp i ∧ ∀ b ∈ fp i, H' b = H b
theorem EStep.refl {K : Fg} {T : List Nat} {F H : Hp} {σ : Sg} {ρ : Rho} {fp : FP} (e : EnvOk K F H σ ρ fp) : EStep K T F H σ ρ fp F H ρ fp := ⟨.refl e, fun _ _ o h => ⟨o, h⟩, fun _ _ => ⟨rfl, rfl, fun _ _ => rfl⟩⟩
theorem EStep.trans {K : Fg} {T : List Nat} {F H F1 H1 F2 H2 : Hp} {σ : Sg} {ρ ρ1 ρ2 : Rho} {fp fp1 fp2 : FP} (a : EStep K T F H σ ρ fp F1 H1 ρ1 fp1) (b : EStep K T F1 H1 σ ρ1 fp1 F2 H2 ρ2 fp2) : EStep K T F H σ ρ fp F2 H2 ρ2 fp2 :=
  ⟨a.st.trans b.st, fun i m o h => let ⟨o1, h1⟩ := a.ko i m o h; b.ko i m o1 h1, fun i hi => by
    obtain ⟨a1, a2, a3⟩ := a.un i hi
    obtain ⟨b1, b2, b3⟩ := b.un i hi
    exact ⟨b1.trans a1, b2.trans a2, fun c hc => (b3 c (by rw [a2]; exact hc)).trans (a3 c hc)⟩⟩
theorem EStep.env {K : Fg} {T : List Nat} {F H F1 H1 : Hp} {σ : Sg} {ρ ρ1 : Rho} {fp fp1 : FP} (a : EStep K T F H σ ρ fp F1 H1 ρ1 fp1) : EnvOk K F1 H1 σ ρ1 fp1 := a.st.env
theorem EStep.sub {K : Fg} {T T' : List Nat} {F H F1 H1 : Hp} {σ : Sg} {ρ ρ1 : Rho} {fp fp1 : FP} (a : EStep K T F H σ ρ fp F1 H1 ρ1 fp1) (h : ∀ i ∈ T, i ∈ T') : EStep K T' F H σ ρ fp F1 H1 ρ1 fp1 :=
  ⟨a.st, a.ko, fun i hi => a.un i fun z => hi (h i z)⟩

structure Grow (F H F' H' : Hp) : Prop where
  h : Same H H'
  f : Same F F'
  s : Same F' H'
  n : ∀ b, F b = none → F' b ≠ none → H b = none
theorem Grow.refl {F H : Hp} (s : Same F H) : Grow F H F H := ⟨Same.refl _, Same.refl _, s, fun _ h h' => absurd h h'⟩
theorem same_upd {H : Hp} {p : Addr} {o : HO} (h : H p = none) : Same H (upd H p o) := fun b u e => by rw [upd_ne (ne_of_none e h)]; exact e
theorem same_upd2 {F H : Hp} {p : Addr} {o : HO} (s : Same F H) : Same (upd F p o) (upd H p o) := fun b u e => by
  by_cases hb : b = p
  · subst hb; rw [upd_same] at e ⊢; exact e
  · rw [upd_ne hb] at e ⊢; exact s b u e
theorem Grow.new {F H : Hp} {p : Addr} (o : HO) (s : Same F H) (h : H p = none) : Grow F H (upd F p o) (upd H p o) :=
  ⟨same_upd h, same_upd (s.free h), same_upd2 s, fun b e e' => by
    by_cases hb : b = p
    · subst hb; exact h
    · rw [upd_ne hb] at e'; exact absurd e e'⟩
theorem Grow.lay {F H : Hp} {p : Addr} (o : HO) (s : Same F H) (h : H p = none) : Grow F H F (upd H p o) :=
  ⟨same_upd h, Same.refl _, s.trans (same_upd h), fun b e e' => absurd e e'⟩
theorem Grow.trans {F H F1 H1 F2 H2 : Hp} (a : Grow F H F1 H1) (b : Grow F1 H1 F2 H2) : Grow F H F2 H2 :=
  ⟨a.h.trans b.h, a.f.trans b.f, b.s, fun c e e' => by
    by_cases q : F1 c = none
    · exact a.h.free (b.n c q e')
    · exact a.n c e q⟩
theorem Grow.step {K : Fg} {T : List Nat} {F H F' H' : Hp} {σ : Sg} {ρ : Rho} {fp : FP} (e : EnvOk K F H σ ρ fp) (g : Grow F H F' H') : EStep K T F H σ ρ fp F' H' ρ fp := by
  have nF : ∀ a, F a = none → H a ≠ none → F' a = none := fun a h h' => by
    cases q : F' a with
    | none => rfl
    | some o => exact absurd (g.n a h (by rw [q]; exact fun z => nomatch z)) h'
  have sH : ∀ a, H a ≠ none → H' a = H a := fun a h => by
    cases q : H a with
    | none => exact absurd q h
    | some u => exact g.h a u q
  refine ⟨⟨⟨g.s, e.len, fun i s h => ?_, e.nil, e.nd, e.ap, e.tb.same g.f g.h g.n, e.al' (fun _ _ _ h => ⟨h, rfl⟩) fun i _ _ h => ⟨h, rfl, fun b hb => sH b (e.there ⟨i, hb⟩).1⟩⟩, g.f, fun b h h' => .inl (g.n b h h'), fun b h => g.h.free h, fun b o h _ _ => g.h b o h, fun b h => .inl h, fun i m o h hm => ⟨rfl, m, o, h, hm⟩, fun i o h => ⟨rfl, h, rfl, fun b hb => sH b (e.there ⟨i, hb⟩).1⟩⟩, fun i m o h => ⟨o, h⟩, fun i _ => ⟨rfl, rfl, fun b hb => sH b (e.there ⟨i, hb⟩).1⟩⟩
  have q := e.sl i s h
  cases s with
  | no => trivial
  | al _ _ => trivial
  | val d => obtain ⟨u, e1, e2⟩ := q; exact ⟨u, e1, dq_mono g.f _ _ e2⟩
  | own m o =>
    obtain ⟨u, e1, e2⟩ := q
    exact ⟨u, e1, e2.move g.f fun b hb => ⟨sH b (e2.mem b hb).1, nF b (e2.mem b hb).2 (e2.mem b hb).1⟩⟩

structure Grow2 (K : Fg) (F H F' H' : Hp) : Prop where
  h : ∀ b o, H b = some o → (∀ ps, o ≠ .tbl ps) → H' b = some o
  d : ∀ b, H' b = none → H b = none
  f : Same F F'
  s : Same F' H'
  n : ∀ b, F b = none → F' b ≠ none → H b = none ∨ KT H b
  t : TbOk K F' H'
theorem Grow2.refl {K : Fg} {F H : Hp} (s : Same F H) (t : TbOk K F H) : Grow2 K F H F H := ⟨fun _ _ h _ => h, fun _ h => h, Same.refl _, s, fun _ h h' => absurd h h', t⟩
theorem Grow2.step {K : Fg} {T : List Nat} {F H F' H' : Hp} {σ : Sg} {ρ : Rho} {fp : FP} (e : EnvOk K F H σ ρ fp) (g : Grow2 K F H F' H') : EStep K T F H σ ρ fp F' H' ρ fp := by
  have nF : ∀ a, F a = none → H a ≠ none → ¬ KT H a → F' a = none := fun a h h' hk => by
    cases q : F' a with
    | none => rfl
    | some o => exact ((g.n a h (by rw [q]; exact fun z => nomatch z)).elim h' hk).elim
  have sH : ∀ a, Owns fp a → H' a = H a := fun a h => by
    cases q : H a with
    | none => exact absurd q (e.there h).1
    | some u => exact g.h a u q fun ps z => e.ntb h ps (z ▸ q)
  refine ⟨⟨⟨g.s, e.len, fun i s h => ?_, e.nil, e.nd, e.ap, g.t, e.al' (fun _ _ _ h => ⟨h, rfl⟩) fun i _ _ h => ⟨h, rfl, fun b hb => sH b ⟨i, hb⟩⟩⟩, g.f, fun b h h' => (g.n b h h').imp_right .inr, fun b h => g.d b h, fun b o h _ nt => g.h b o h nt, fun b h => .inl h, fun i m o h hm => ⟨rfl, m, o, h, hm⟩, fun i o h => ⟨rfl, h, rfl, fun b hb => sH b ⟨i, hb⟩⟩⟩, fun i m o h => ⟨o, h⟩, fun i _ => ⟨rfl, rfl, fun b hb => sH b ⟨i, hb⟩⟩⟩
  have q := e.sl i s h
  cases s with
  | no => trivial
  | al _ _ => trivial
  | val d => obtain ⟨u, e1, e2⟩ := q; exact ⟨u, e1, dq_mono g.f _ _ e2⟩
  | own m o =>
    obtain ⟨u, e1, e2⟩ := q
    exact ⟨u, e1, e2.move g.f fun b hb => ⟨sH b ⟨i, hb⟩, nF b (e2.mem b hb).2 (e2.mem b hb).1 (e2.nkt b hb)⟩⟩

inductive Rv where
  | d (x : PyData)
  | o (i : Nat)
noncomputable def RvOk (K : Fg) (F : Hp) (σ : Sg) (ρ : Rho) (v : V) : Rv → Prop
  | .d x => Dq K F v x
  | .o i => sg σ i = some v ∧ ∃ m t, ρ[i]? = some (Sl.own m t)
theorem RvOk.step {K : Fg} {T : List Nat} {F H F1 H1 : Hp} {σ : Sg} {ρ ρ1 : Rho} {fp fp1 : FP} {v : V} (a : EStep K T F H σ ρ fp F1 H1 ρ1 fp1) : ∀ {r : Rv}, RvOk K F σ ρ v r → RvOk K F1 σ ρ1 v r
  | .d _, h => dq_mono a.st.fr _ _ h
  | .o i, ⟨h, m, ob, e⟩ => ⟨h, let ⟨o', e'⟩ := a.ko i m ob e; ⟨m, o', e'⟩⟩
inductive RvsOk (K : Fg) (F : Hp) (σ : Sg) (ρ : Rho) : List V → List Rv → Prop
  | nil : RvsOk K F σ ρ [] []
  | cons {v vs r rs} : RvOk K F σ ρ v r → RvsOk K F σ ρ vs rs → RvsOk K F σ ρ (v :: vs) (r :: rs)
theorem RvsOk.step {K : Fg} {T : List Nat} {F H F1 H1 : Hp} {σ : Sg} {ρ ρ1 : Rho} {fp fp1 : FP} (a : EStep K T F H σ ρ fp F1 H1 ρ1 fp1) : ∀ {vs : List V} {rs : List Rv}, RvsOk K F σ ρ vs rs → RvsOk K F1 σ ρ1 vs rs
  | _, _, .nil => .nil
  | _, _, .cons h t => .cons (h.step a) (RvsOk.step a t)
structure NewOk (K : Fg) (H : Hp) (fp : FP) (F' H' : Hp) (fp' : FP) (v : V) (t : Tr) (A : List Addr) : Prop where
  ok : TrOk K F' H' v t A
  nd : A.Nodup
  new : ∀ b ∈ A, H b = none ∨ Owns fp b
  out : ∀ b ∈ A, ¬ Owns fp' b

inductive Er (α : Type) where
  | ok (a : α) (ρ : Rho)
  | ex (c : Str) (ρ : Rho)
noncomputable abbrev M (α : Type) := Rho → Option (Er α)
noncomputable def bnd {α β : Type} (f : M α) (k : α → M β) : M β := fun ρ => match f ρ with
  | some (.ok a ρ1) => k a ρ1
  | some (.ex c ρ1) => some (.ex c ρ1)
  | none => none
noncomputable def ret {α : Type} (a : α) : M α := fun ρ => some (.ok a ρ)
noncomputable abbrev WV := Str → Sg → Hp → Prop
structure Rl (K : Fg) (α β : Type) where
  r : Hp → FP → Hp → Hp → FP → Sg → Rho → β → α → Prop
  back : ∀ {T F H F1 H1 F2 H2 σ ρ ρ1 ρ2 fp fp1 fp2 b a}, EStep K T F H σ ρ fp F1 H1 ρ1 fp1 → r H1 fp1 F2 H2 fp2 σ ρ2 b a → r H fp F2 H2 fp2 σ ρ2 b a
noncomputable def Pst {α β : Type} {K : Fg} (T : List Nat) (W : WV) (R : Rl K α β) (F H : Hp) (σ : Sg) (ρ : Rho) (fp : FP) (Q : β → Hp → Prop) : Er α → Prop
  | .ok a ρ' => ∀ b H' F' fp', EStep K T F H σ ρ fp F' H' ρ' fp' → R.r H fp F' H' fp' σ ρ' b a → Q b H'
  | .ex c ρ' => ∀ H' F' fp', EStep K T F H σ ρ fp F' H' ρ' fp' → W c σ H'
noncomputable def TVg {α β : Type} {K : Fg} (T : List Nat) (W : WV) (R : Rl K α β) (f : M α) (σ : Sg) (H : Hp) (Q : β → Hp → Prop) : Prop :=
  ∃ F ρ fp o, EnvOk K F H σ ρ fp ∧ f ρ = some o ∧ Pst T W R F H σ ρ fp Q o
theorem Pst.step {α β : Type} {K : Fg} {T T' : List Nat} {W : WV} {R : Rl K α β} {F H F1 H1 : Hp} {σ : Sg} {ρ ρ1 : Rho} {fp fp1 : FP} {Q : β → Hp → Prop} (a : EStep K T F H σ ρ fp F1 H1 ρ1 fp1) (hT : ∀ i ∈ T, i ∈ T') :
    ∀ {o : Er α}, Pst T' W R F H σ ρ fp Q o → Pst T' W R F1 H1 σ ρ1 fp1 Q o
  | .ok _ _, h => fun b H' F' fp' e r => h b H' F' fp' ((a.sub hT).trans e) (R.back a r)
  | .ex _ _, h => fun H' F' fp' e => h H' F' fp' ((a.sub hT).trans e)
theorem tv_bnd {α β γ δ : Type} {K : Fg} {T T' : List Nat} {W : WV} {R : Rl K α β} {R2 : Rl K γ δ} {f : M α} {k : α → M γ} {F H : Hp} {σ : Sg} {ρ : Rho} {fp : FP} {o : Er γ} {Q : δ → Hp → Prop} {Q1 : β → Hp → Prop}
    (E : EnvOk K F H σ ρ fp) (e : bnd f k ρ = some o) (P : Pst T' W R2 F H σ ρ fp Q o) (hT : ∀ i ∈ T, i ∈ T')
    (hk : ∀ a ρ1 b H1 F1 fp1, EStep K T F H σ ρ fp F1 H1 ρ1 fp1 → R.r H fp F1 H1 fp1 σ ρ1 b a → k a ρ1 = some o → Pst T' W R2 F1 H1 σ ρ1 fp1 Q o → Q1 b H1) : TVg T W R f σ H Q1 := by
  unfold bnd at e
  cases q : f ρ with
  | none => rw [q] at e; cases e
  | some r =>
    rw [q] at e
    cases r with
    | ok a ρ1 => exact ⟨F, ρ, fp, _, E, q, fun b H1 F1 fp1 st r => hk a ρ1 b H1 F1 fp1 st r e (P.step st hT)⟩
    | ex c ρ1 =>
      cases e
      exact ⟨F, ρ, fp, _, E, q, fun H1 F1 fp1 st => P H1 F1 fp1 (st.sub hT)⟩
noncomputable def rlV (K : Fg) : Rl K Rv V := ⟨fun _ _ F' _ _ σ ρ' v r => RvOk K F' σ ρ' v r, fun _ h => h⟩
noncomputable def rlA (K : Fg) : Rl K (List Rv) (List V) := ⟨fun _ _ F' _ _ σ ρ' v r => RvsOk K F' σ ρ' v r, fun _ h => h⟩
noncomputable def rlT (K : Fg) : Rl K Bool Bool := ⟨fun _ _ _ _ _ _ _ v r => v = r, fun _ h => h⟩
noncomputable def rlN (K : Fg) : Rl K Tr V := ⟨fun H fp F' H' fp' _ _ v t => ∃ A, NewOk K H fp F' H' fp' v t A, fun e h => by
  obtain ⟨A, h⟩ := h
  refine ⟨A, h.ok, h.nd, fun b hb => ?_, h.out⟩
  rcases h.new b hb with z | z
  · exact .inl (e.st.dom b z)
  · exact (e.st.own b z).symm⟩
noncomputable abbrev tV (K : Fg) (T : List Nat) (W : WV) (f : M Rv) : TE := fun σ H Q => TVg T W (rlV K) f σ H Q
noncomputable abbrev tVN (K : Fg) (T : List Nat) (W : WV) (f : M Tr) : TE := fun σ H Q => TVg T W (rlN K) f σ H Q
noncomputable abbrev tVT (K : Fg) (T : List Nat) (W : WV) (f : M Bool) : TT := fun σ H Q => TVg T W (rlT K) f σ H Q
noncomputable abbrev tVA (K : Fg) (T : List Nat) (W : WV) (f : M (List Rv)) : TA := fun σ H Q => TVg T W (rlA K) f σ H Q
noncomputable def VE (X : Cx) (T : List Nat) (W : WV) (e : Expr) (f : M Rv) : Prop := PE X e (tV X.K T W f)
noncomputable def VN (X : Cx) (T : List Nat) (W : WV) (e : Expr) (f : M Tr) : Prop := PE X e (tVN X.K T W f)
noncomputable def VT (X : Cx) (T : List Nat) (W : WV) (e : Expr) (f : M Bool) : Prop := PT X e (tVT X.K T W f)
noncomputable def VW (X : Cx) (T : List Nat) (W : WV) (e : Expr) (f : M Bool) : Prop := PW X e (tVT X.K T W f)
noncomputable def VA (X : Cx) (T : List Nat) (W : WV) (es : List Expr) (f : M (List Rv)) : Prop := PA X es (tVA X.K T W f)
theorem pe_imp {X : Cx} {e : Expr} {t t' : TE} (h : PE X e t) (i : ∀ σ H Q, t' σ H Q → t σ H Q) : PE X e t' := ⟨fun pins s σ H Q I q => h.run pins s σ H Q I (i σ H Q q)⟩
theorem pt_imp {X : Cx} {e : Expr} {t t' : TT} (h : PT X e t) (i : ∀ σ H Q, t' σ H Q → t σ H Q) : PT X e t' := ⟨fun pins s σ H Q I q => h.run pins s σ H Q I (i σ H Q q)⟩
theorem pw_imp {X : Cx} {e : Expr} {t t' : TT} (h : PW X e t) (i : ∀ σ H Q, t' σ H Q → t σ H Q) : PW X e t' := ⟨fun wh pins s σ H Q I q => h.run wh pins s σ H Q I (i σ H Q q)⟩
theorem pa_imp {X : Cx} {e : List Expr} {t t' : TA} (h : PA X e t) (i : ∀ σ H Q, t' σ H Q → t σ H Q) : PA X e t' := ⟨fun pos pins s σ H Q I q => h.run pos pins s σ H Q I (i σ H Q q)⟩
theorem ps_imp {X : Cx} {e : Stmt} {t t' : TS} (h : PS X e t) (i : ∀ D σ H, t' D σ H → t D σ H) : PS X e t' := ⟨fun pins s σ H D I q => h.run pins s σ H D I (i D σ H q)⟩
theorem pss_imp {X : Cx} {e : List Stmt} {t t' : TS} (h : PSs X e t) (i : ∀ D σ H, t' D σ H → t D σ H) : PSs X e t' := ⟨fun pins s σ H D I q => h.run pins s σ H D I (i D σ H q)⟩

noncomputable def der (ρ : Rho) : Rv → Option PyData
  | .d x => some x
  | .o i => match ρ[i]? with
    | some (.own _ t) => t.toD
    | _ => none
noncomputable def flat : List Tr → Option (List PyData)
  | [] => some []
  | .dat d :: ts => (flat ts).map (d :: ·)
  | _ :: _ => none
noncomputable def derS (ρ : Rho) : Rv → Option PyData
  | .d x => some x
  | .o i => match ρ[i]? with
    | some (.own _ (.lst ts)) => (flat ts).map .list
    | _ => none
theorem flat_ok : ∀ {ts : List Tr} {ds : List PyData}, flat ts = some ds → ts = ds.map .dat
  | [], _, e => by simp only [flat] at e; cases e; rfl
  | .dat d :: ts, ds, e => by
    simp only [flat] at e
    cases z : flat ts with
    | none => rw [z] at e; cases e
    | some es => rw [z] at e; cases e; rw [flat_ok z]; rfl
  | .tup _ :: _, _, e => by simp [flat] at e
  | .lst _ :: _, _, e => by simp [flat] at e
  | .dk _ :: _, _, e => by simp [flat] at e
  | .dt _ :: _, _, e => by simp [flat] at e
  | .ins _ _ :: _, _, e => by simp [flat] at e
  | .fk _ :: _, _, e => by simp [flat] at e
  | .ft _ :: _, _, e => by simp [flat] at e
  | .raw _ :: _, _, e => by simp [flat] at e
  | .sd _ :: _, _, e => by simp [flat] at e
  | .hole :: _, _, e => by simp [flat] at e
  | .dn _ :: _, _, e => by simp [flat] at e
  | .sn _ :: _, _, e => by simp [flat] at e
theorem flat_dat : ∀ ds : List PyData, flat (ds.map .dat) = some ds
  | [] => rfl
  | d :: ds => by simp [flat, flat_dat ds]
theorem der_ok {K : Fg} {F H : Hp} {σ : Sg} {ρ : Rho} {fp : FP} {v : V} {d : PyData} (E : EnvOk K F H σ ρ fp) : ∀ {r : Rv}, RvOk K F σ ρ v r → der ρ r = some d → Dq K H v d
  | .d x, h, e => by simp only [der] at e; cases e; exact dq_mono E.sub _ _ h
  | .o i, ⟨h, m, t, e⟩, q => by
    simp only [der, e] at q
    obtain ⟨u, e1, e2⟩ := E.sl i _ e
    rw [h] at e1
    cases e1
    exact e2.dp E.sub (fun _ _ => rfl) q
noncomputable def DpS (K : Fg) (F H : Hp) (v : V) (d : PyData) : Prop := Dq K F v d ∨ ∃ a vs ds, v = .ref a ∧ d = .list ds ∧ H a = some (.lst vs) ∧ DqAll K F vs ds
theorem derS_ok {K : Fg} {F H : Hp} {σ : Sg} {ρ : Rho} {fp : FP} {v : V} {d : PyData} (E : EnvOk K F H σ ρ fp) : ∀ {r : Rv}, RvOk K F σ ρ v r → derS ρ r = some d → DpS K F H v d
  | .d x, h, e => by simp only [derS] at e; cases e; exact .inl h
  | .o i, ⟨h, m, t, e⟩, q => by
    simp only [derS, e] at q
    obtain ⟨u, e1, e2⟩ := E.sl i _ e
    rw [h] at e1
    cases e1
    cases t with
    | lst ts =>
      cases z : flat ts with
      | none => simp only [z] at q; cases q
      | some ds =>
        simp only [z] at q
        cases q
        have := flat_ok z
        subst this
        generalize fp i = A at e2
        cases e2 with
        | lst h1 h2 h3 =>
          obtain ⟨_, h4⟩ := trs_dat' h3
          exact .inr ⟨_, _, ds, rfl, rfl, h1, h4⟩
    | _ => cases q
theorem DpS.dp {K : Fg} {F H : Hp} {v : V} {d : PyData} (s : Same F H) (h : DpS K F H v d) : Dq K H v d := by
  rcases h with h | ⟨a, vs, ds, rfl, rfl, h1, h2⟩
  · exact dq_mono s _ _ h
  · exact .lst (.inl h1) (dqAll_mono s _ _ h2)
theorem DpS.list {K : Fg} {F H : Hp} {v : V} {ds : List PyData} (s : Same F H) (h : DpS K F H v (.list ds)) : ∃ a vs, v = .ref a ∧ Rd H a (.lst vs) ∧ DqAll K F vs ds := by
  rcases h with h | ⟨a, vs, ds', rfl, e, h1, h2⟩
  · cases h with
    | lst hs ha => exact ⟨_, _, rfl, rd_mono s hs, ha⟩
  · cases e; exact ⟨a, vs, rfl, .inl h1, h2⟩
theorem DpS.tup {K : Fg} {F H : Hp} {v : V} {ds : List PyData} (s : Same F H) (h : DpS K F H v (.tuple ds)) : ∃ a vs, v = .ref a ∧ SqT K H a vs ∧ DqAll K F vs ds ∧ Dq K F v (.tuple ds) := by
  rcases h with h | ⟨a, vs, ds', rfl, e, h1, h2⟩
  · cases h with
    | tups hs ha => exact ⟨_, _, rfl, (hs.mono s).sq, ha, .tups hs ha⟩
  · cases e
theorem DpS.int {K : Fg} {F H : Hp} {v : V} {i : Int} (h : DpS K F H v (.int i)) : v = .int i := by
  rcases h with h | ⟨a, vs, ds', rfl, e, h1, h2⟩
  · cases h; rfl
  · cases e
theorem DpS.bl {K : Fg} {F H : Hp} {v : V} {i : Bool} (h : DpS K F H v (.bool i)) : v = .bl i := by
  rcases h with h | ⟨a, vs, ds', rfl, e, h1, h2⟩
  · cases h; rfl
  · cases e
theorem DpS.str {K : Fg} {F H : Hp} {v : V} {i : Str} (h : DpS K F H v (.str i)) : v = .str i := by
  rcases h with h | ⟨a, vs, ds', rfl, e, h1, h2⟩
  · cases h; rfl
  · cases e
theorem DpS.non {K : Fg} {F H : Hp} {v : V} (h : DpS K F H v .none) : v = .non := by
  rcases h with h | ⟨a, vs, ds', rfl, e, h1, h2⟩
  · cases h; rfl
  · cases e
end VL

end

section
set_option Elab.async false
set_option linter.all false
set_option maxRecDepth 100000
namespace VL
open PySem PySem.Spec PyProof.Rows L2

section
variable {X : Cx} {T T1 T2 T3 : List Nat} {W : WV}
theorem ok_inj {α : Type} {a : α} {ρ : Rho} {o : Er α} (h : some (Er.ok a ρ) = some o) : o = .ok a ρ := (Option.some.inj h).symm

noncomputable def cD (x : PyData) : M Rv := ret (.d x)
theorem ve_int {i j pos} : VE X [] W (.Constant (.int i) j pos) (cD (.int i)) := pe_imp pe_int fun σ H Q ⟨F, ρ, fp, o, E, e, P⟩ => by
  cases ok_inj e
  exact P _ H F fp (.refl E) (.int i)
theorem ve_bl {i j pos} : VE X [] W (.Constant (.bool i) j pos) (cD (.bool i)) := pe_imp pe_bl fun σ H Q ⟨F, ρ, fp, o, E, e, P⟩ => by
  cases ok_inj e
  exact P _ H F fp (.refl E) (.bl i)
theorem ve_non {j pos} : VE X [] W (.Constant .none j pos) (cD .none) := pe_imp pe_non fun σ H Q ⟨F, ρ, fp, o, E, e, P⟩ => by
  cases ok_inj e
  exact P _ H F fp (.refl E) .non
theorem ve_str {i j pos} : VE X [] W (.Constant (.str i) j pos) (cD (.str i)) := pe_imp pe_str fun σ H Q ⟨F, ρ, fp, o, E, e, P⟩ => by
  cases ok_inj e
  exact P _ H F fp (.refl E) (.str i)
theorem ve_strC {i k : Str} (h : i = k) {j pos} : VE X [] W (.Constant (.str i) j pos) (cD (.str k)) := by
  subst h
  exact ve_str
noncomputable def cVar (i : Nat) : M Rv := fun ρ => match ρ[i]? with
  | some (.val d) => some (.ok (.d d) ρ)
  | some (.own _ (.dat d)) => some (.ok (.d d) ρ)
  | some (.own _ _) => some (.ok (.o i) ρ)
  | _ => none
theorem ve_var (i : Nat) {x : Str} {pos : Pos} (hN : X.N[i]? = some x := by rfl) (hv : Vis X.env.scope x := by first | exact Or.inl rfl | exact Or.inr (Or.inl rfl) | exact Or.inr (Or.inr rfl)) (hd : (x == ("__debug__" : Str)) = false := by decide)
    (hcd : (x == ("__classdict__" : Str)) = false := by decide) : VE X [] W (.Name x pos) (cVar i) := by
  refine pe_imp (pe_var hN hv hd hcd) fun σ H Q ⟨F, ρ, fp, o, E, e, P⟩ => ?_
  unfold cVar at e
  split at e
  · rename_i d h
    cases ok_inj e
    obtain ⟨u, hu, q⟩ := E.sl i _ h
    exact ⟨u, sg_some.mp hu, P u H F fp (.refl E) q⟩
  · rename_i m d h
    cases ok_inj e
    obtain ⟨u, hu, q⟩ := E.sl i _ h
    generalize fp i = A at q
    cases q with
    | dat q => exact ⟨u, sg_some.mp hu, P u H F fp (.refl E) q⟩
  · rename_i m t _ h
    cases ok_inj e
    obtain ⟨u, hu, q⟩ := E.sl i _ h
    exact ⟨u, sg_some.mp hu, P u H F fp (.refl E) ⟨hu, m, t, h⟩⟩
  · cases e
theorem ve_glob {x : Str} {d : PyData} {v : V} {u : Value} {pos : Pos} (hg : Gl X x) (hm : X.mg x = some u) (r : RelV v u) (hd : ∀ F, Dq X.K F v d) (hdb : (x == ("__debug__" : Str)) = false := by decide) : VE X [] W (.Name x pos) (cD d) :=
  pe_imp (pe_glob hg hm r hdb) fun σ H Q ⟨F, ρ, fp, o, E, e, P⟩ => by
    cases ok_inj e
    exact P _ H F fp (.refl E) (hd F)

noncomputable def OpOk (K : Fg) (r : R2) (g : PyData → PyData → Option PyData) : Prop := ∀ F H x y dx dy z Q, Same F H → DpS K F H x dx → DpS K F H y dy → g dx dy = some z → (∀ v F' H', Grow F H F' H' → Dq K F' v z → Q v H') → r x y H Q
noncomputable def bin1 (g : PyData → PyData → Option PyData) (x y : Rv) : M Rv := fun ρ => match derS ρ x, derS ρ y with
  | some a, some b => (match g a b with
    | some z => some (.ok (.d z) ρ)
    | none => none)
  | _, _ => none
noncomputable def cBin (g : PyData → PyData → Option PyData) (fa fb : M Rv) : M Rv := bnd fa fun x => bnd fb fun y => bin1 g x y
variable {fa fb fc : M Rv} {g : PyData → PyData → Option PyData} {r r' : R2} {a b c : Expr} {pos : Pos}
theorem tv_bin {σ : Sg} {H : Hp} {Q : VK} (hg : OpOk X.K r g) (h : tV X.K (T1 ++ T2) W (cBin g fa fb) σ H Q) : tOp r (tV X.K T1 W fa) (tV X.K T2 W fb) σ H Q := by
  obtain ⟨F, ρ, fp, o, E, e, P⟩ := h
  refine tv_bnd E e P (fun i hi => List.mem_append_left _ hi) fun x ρ1 v H1 F1 fp1 s1 r1 e1 P1 => ?_
  refine tv_bnd s1.env e1 P1 (fun i hi => List.mem_append_right _ hi) fun y ρ2 w H2 F2 fp2 s2 r2 e2 P2 => ?_
  unfold bin1 at e2
  split at e2
  · rename_i p q hp hq
    split at e2
    · rename_i z hz
      cases ok_inj e2
      exact hg F2 H2 v w p q z Q s2.env.sub (derS_ok s2.env (RvOk.step s2 r1) hp) (derS_ok s2.env r2 hq) hz fun v' F3 H3 gr dp => P2 v' H3 F3 fp2 (gr.step s2.env) dp
    · cases e2
  · cases e2
theorem ve_bin {op : Operator} (ho : OpR X (binaryOp op) r) (hg : OpOk X.K r g) (ha : VE X T1 W a fa) (hb : VE X T2 W b fb) : VE X (T1 ++ T2) W (.BinOp a op b pos) (cBin g fa fb) :=
  pe_imp (pe_op ho ha hb) fun σ H Q h => tv_bin hg h
noncomputable def OpOkD (K : Fg) (r : R2) (g : PyData → PyData → Option Bool) : Prop := ∀ H x y dx dy z (Q : VK), Dq K H x dx → Dq K H y dy → g dx dy = some z → Q (.bl z) H → r x y H Q
noncomputable def binD (g : PyData → PyData → Option Bool) (x y : Rv) : M Bool := fun ρ => match der ρ x, der ρ y with
  | some a, some b => (match g a b with
    | some z => some (.ok z ρ)
    | none => none)
  | _, _ => none
noncomputable def cCmp (g : PyData → PyData → Option Bool) (fa fb : M Rv) : M Bool := bnd fa fun x => bnd fb fun y => binD g x y
noncomputable def cOf (f : M Bool) : M Rv := bnd f fun b => ret (.d (.bool b))
variable {gd gd' : PyData → PyData → Option Bool} {fA fB : M Bool}
theorem tv_cmp {σ : Sg} {H : Hp} {Q : Bool → Hp → Prop} (hg : OpOkD X.K r gd) (h : tVT X.K (T1 ++ T2) W (cCmp gd fa fb) σ H Q) : tTest (tOp r (tV X.K T1 W fa) (tV X.K T2 W fb)) σ H Q := by
  obtain ⟨F, ρ, fp, o, E, e, P⟩ := h
  refine tv_bnd E e P (fun i hi => List.mem_append_left _ hi) fun x ρ1 v H1 F1 fp1 s1 r1 e1 P1 => ?_
  refine tv_bnd s1.env e1 P1 (fun i hi => List.mem_append_right _ hi) fun y ρ2 w H2 F2 fp2 s2 r2 e2 P2 => ?_
  unfold binD at e2
  split at e2
  · rename_i p q hp hq
    split at e2
    · rename_i z hz
      cases ok_inj e2
      exact hg H2 v w p q z _ (der_ok s2.env (RvOk.step s2 r1) hp) (der_ok s2.env r2 hq) hz ⟨z, rfl, P2 z H2 F2 fp2 (.refl s2.env) rfl⟩
    · cases e2
  · cases e2
theorem vt_cmp {op : CmpOp} (ho : OpR X (compareOp op) r) (hg : OpOkD X.K r gd) (ha : VE X T1 W a fa) (hb : VE X T2 W b fb) (hm : behindInMarks op b = false) : VT X (T1 ++ T2) W (.Compare a [op] [b] pos) (cCmp gd fa fb) :=
  pt_imp (pt_cmpR ho ha hb hm) fun σ H Q h => tv_cmp hg h
theorem of_cOf {K : Fg} {f : M Bool} {σ : Sg} {H : Hp} {Q : VK} (h : tV K T W (cOf f) σ H Q) : tVT K T W f σ H fun b H1 => Q (.bl b) H1 := by
  obtain ⟨F, ρ, fp, o, E, e, P⟩ := h
  refine tv_bnd E e P (fun i hi => hi) fun x ρ1 v H1 F1 fp1 s1 r1 e1 P1 => ?_
  cases ok_inj e1
  have r1 : v = x := r1
  subst r1
  exact P1 _ H1 F1 fp1 (.refl s1.env) (.bl v)
theorem ve_cmp {op : CmpOp} (ho : OpR X (compareOp op) r) (hg : OpOkD X.K r gd) (ha : VE X T1 W a fa) (hb : VE X T2 W b fb) (hm : behindInMarks op b = false) : VE X (T1 ++ T2) W (.Compare a [op] [b] pos) (cOf (cCmp gd fa fb)) := by
  refine pe_imp (pe_cmpR ho ha hb hm) fun σ H Q h => ?_
  obtain ⟨F, ρ, fp, o, E, e, P⟩ := of_cOf h
  refine tv_bnd E e P (fun i hi => List.mem_append_left _ hi) fun x ρ1 v H1 F1 fp1 s1 r1 e1 P1 => ?_
  refine tv_bnd s1.env e1 P1 (fun i hi => List.mem_append_right _ hi) fun y ρ2 w H2 F2 fp2 s2 r2 e2 P2 => ?_
  unfold binD at e2
  split at e2
  · rename_i p q hp hq
    split at e2
    · rename_i z hz
      cases ok_inj e2
      exact hg H2 v w p q z _ (der_ok s2.env (RvOk.step s2 r1) hp) (der_ok s2.env r2 hq) hz (P2 z H2 F2 fp2 (.refl s2.env) rfl)
    · cases e2
  · cases e2
noncomputable def cChain (g g' : PyData → PyData → Option Bool) (fa fb fc : M Rv) : M Bool := bnd fa fun x => bnd fb fun y => bnd (binD g x y) fun k => if k then bnd fc fun z => binD g' y z else ret false
noncomputable def asB (ρ : Rho) (x : Rv) : Option Bool := match der ρ x with
  | some (.bool b) => some b
  | _ => none
noncomputable def cTest (f : M Rv) : M Bool := bnd f fun x => fun ρ => match asB ρ x with
  | some b => some (.ok b ρ)
  | none => none
theorem tv_test {σ : Sg} {H : Hp} {Q : Bool → Hp → Prop} (h : tVT X.K T W (cTest fa) σ H Q) : TVg T W (rlV X.K) fa σ H fun x H1 => ∃ c, x = V.bl c ∧ Q c H1 := by
  obtain ⟨F, ρ, fp, o, E, e, P⟩ := h
  refine tv_bnd E e P (fun i hi => hi) fun x ρ1 v H1 F1 fp1 s1 r1 e1 P1 => ?_
  split at e1
  · rename_i b hb
    cases ok_inj e1
    unfold asB at hb
    split at hb
    · rename_i b' hd
      cases hb
      have q := der_ok s1.env r1 hd
      cases q
      exact ⟨_, rfl, P1 _ H1 F1 fp1 (.refl s1.env) rfl⟩
    · cases hb
  · cases e1
theorem vt_val (ha : VE X T W a fa) (he : ∀ whole, isTrue a X.env whole = (do let v ← whole; standAt a.pos; holding [v] (truthy v)) := by intro _; rfl) : VT X T W a (cTest fa) :=
  pt_imp (pt_val ha he) fun σ H Q h => tv_test h
noncomputable def cNot (f : M Bool) : M Bool := bnd f fun b => ret (!b)
theorem tv_not {K : Fg} {σ : Sg} {H : Hp} {Q : Bool → Hp → Prop} (h : tVT K T W (cNot fA) σ H Q) : tVT K T W fA σ H fun c H1 => Q (!c) H1 := by
  obtain ⟨F, ρ, fp, o, E, e, P⟩ := h
  refine tv_bnd E e P (fun i hi => hi) fun x ρ1 v H1 F1 fp1 s1 r1 e1 P1 => ?_
  cases ok_inj e1
  have r1 : v = x := r1
  subst r1
  exact P1 _ H1 F1 fp1 (.refl s1.env) rfl
theorem vt_not (ha : VT X T W a fA) : VT X T W (.UnaryOp .Not a pos) (cNot fA) := pt_imp (pt_not ha) fun σ H Q h => tv_not h
noncomputable def cAnd (f g : M Bool) : M Bool := bnd f fun b => if b then g else ret false
noncomputable def cOr (f g : M Bool) : M Bool := bnd f fun b => if b then ret true else g
variable {rest : List Expr}
theorem vw_and1 (ha : VT X T W a fA) : VW X T W (.BoolOp .And [a] pos) fA := pw_and1 ha
theorem vw_or1 (ha : VT X T W a fA) : VW X T W (.BoolOp .Or [a] pos) fA := pw_or1 ha
theorem vw_and (ha : VT X T1 W a fA) (hb : VW X T2 W (.BoolOp .And (b :: rest) pos) fB) : VW X (T1 ++ T2) W (.BoolOp .And (a :: b :: rest) pos) (cAnd fA fB) :=
  pw_imp (pw_and ha hb) fun σ H Q ⟨F, ρ, fp, o, E, e, P⟩ => by
    refine tv_bnd E e P (fun i hi => List.mem_append_left _ hi) fun x ρ1 v H1 F1 fp1 s1 r1 e1 P1 => ?_
    have r1 : v = x := r1
    subst r1
    cases v with
    | true =>
      rw [if_pos rfl] at e1 ⊢
      refine ⟨F1, ρ1, fp1, o, s1.env, e1, ?_⟩
      cases o with
      | ok a ρ' => exact fun b' H' F' fp' s r => P1 b' H' F' fp' (s.sub fun i hi => List.mem_append_right _ hi) r
      | ex c ρ' => exact fun H' F' fp' s => P1 H' F' fp' (s.sub fun i hi => List.mem_append_right _ hi)
    | false =>
      rw [if_neg Bool.false_ne_true] at e1 ⊢
      cases ok_inj e1
      exact P1 _ H1 F1 fp1 (.refl s1.env) rfl
theorem vw_or (ha : VT X T1 W a fA) (hb : VW X T2 W (.BoolOp .Or (b :: rest) pos) fB) : VW X (T1 ++ T2) W (.BoolOp .Or (a :: b :: rest) pos) (cOr fA fB) :=
  pw_imp (pw_or ha hb) fun σ H Q ⟨F, ρ, fp, o, E, e, P⟩ => by
    refine tv_bnd E e P (fun i hi => List.mem_append_left _ hi) fun x ρ1 v H1 F1 fp1 s1 r1 e1 P1 => ?_
    have r1 : v = x := r1
    subst r1
    cases v with
    | false =>
      rw [if_neg Bool.false_ne_true] at e1 ⊢
      refine ⟨F1, ρ1, fp1, o, s1.env, e1, ?_⟩
      cases o with
      | ok a ρ' => exact fun b' H' F' fp' s r => P1 b' H' F' fp' (s.sub fun i hi => List.mem_append_right _ hi) r
      | ex c ρ' => exact fun H' F' fp' s => P1 H' F' fp' (s.sub fun i hi => List.mem_append_right _ hi)
    | true =>
      rw [if_pos rfl] at e1 ⊢
      cases ok_inj e1
      exact P1 _ H1 F1 fp1 (.refl s1.env) rfl
theorem vw_pt (h : VW X T W a fA) : VT X T W a fA := PW.pt h
noncomputable def cAndV (f : M Rv) (g : M Rv) : M Rv := bnd (cTest f) fun b => if b then g else ret (.d (.bool false))
noncomputable def cOrV (f : M Rv) (g : M Rv) : M Rv := bnd (cTest f) fun b => if b then ret (.d (.bool true)) else g
theorem ve_one {op} (h : VE X T W a fa) : VE X T W (.BoolOp op [a] pos) fa := pe_one h
theorem tv_cond {K : Fg} {γ δ : Type} {R : Rl K γ δ} {f : M γ} {σ : Sg} {F H : Hp} {ρ : Rho} {fp : FP} {o : Er γ} {Q : δ → Hp → Prop} (E : EnvOk K F H σ ρ fp) (e : f ρ = some o) (P : Pst T W R F H σ ρ fp Q o) (hT : ∀ i ∈ T1, i ∈ T) : TVg T1 W R f σ H Q := by
  refine ⟨F, ρ, fp, o, E, e, ?_⟩
  cases o with
  | ok a ρ' => exact fun b' H' F' fp' s r => P b' H' F' fp' (s.sub hT) r
  | ex c ρ' => exact fun H' F' fp' s => P H' F' fp' (s.sub hT)
theorem tv_tbnd {K : Fg} {γ δ : Type} {R : Rl K γ δ} {f : M Rv} {k : Bool → M γ} {σ : Sg} {F H : Hp} {ρ : Rho} {fp : FP} {o : Er γ} {Q : δ → Hp → Prop} {Q1 : VK} (E : EnvOk K F H σ ρ fp) (e : bnd (cTest f) k ρ = some o) (P : Pst T W R F H σ ρ fp Q o) (hT : ∀ i ∈ T1, i ∈ T)
    (hk : ∀ b ρ1 H1 F1 fp1, EStep K T1 F H σ ρ fp F1 H1 ρ1 fp1 → k b ρ1 = some o → Pst T W R F1 H1 σ ρ1 fp1 Q o → Q1 (.bl b) H1) : TVg T1 W (rlV K) f σ H Q1 := by
  have e' : bnd f (fun x => bnd (fun ρ => match asB ρ x with | some b => some (.ok b ρ) | none => none) k) ρ = some o := by
    rw [← e]
    unfold cTest bnd
    cases f ρ with
    | none => rfl
    | some r => cases r <;> rfl
  refine tv_bnd E e' P hT fun x ρ1 v H1 F1 fp1 s1 r1 e1 P1 => ?_
  unfold bnd at e1
  cases hb : asB ρ1 x with
  | none => simp only [hb] at e1; cases e1
  | some b =>
    simp only [hb] at e1
    unfold asB at hb
    split at hb
    · rename_i b' hd
      cases hb
      have q := der_ok s1.env r1 hd
      cases q
      exact hk _ ρ1 H1 F1 fp1 s1 e1 P1
    · cases hb
theorem ve_and (ha : VE X T1 W a fa) (hb : VE X T2 W (.BoolOp .And (b :: rest) pos) fb) : VE X (T1 ++ T2) W (.BoolOp .And (a :: b :: rest) pos) (cAndV fa fb) :=
  pe_imp (L2.pe_and ha hb) fun σ H Q ⟨F, ρ, fp, o, E, e, P⟩ => by
    refine tv_tbnd E e P (fun i hi => List.mem_append_left _ hi) fun v ρ1 H1 F1 fp1 s1 e1 P1 => ⟨v, rfl, ?_⟩
    cases v with
    | true =>
      rw [if_pos rfl] at e1 ⊢
      exact tv_cond s1.env e1 P1 fun i hi => List.mem_append_right _ hi
    | false =>
      rw [if_neg Bool.false_ne_true] at e1 ⊢
      cases ok_inj e1
      exact P1 _ H1 F1 fp1 (.refl s1.env) (.bl _)
noncomputable def cNotV (f : M Rv) : M Rv := bnd (cTest f) fun b => ret (.d (.bool (!b)))
noncomputable def cIf {α : Type} (c : M Bool) (f g : M α) : M α := bnd c fun b => if b then f else g
noncomputable def aNil : M (List Rv) := ret []
noncomputable def aCons (f : M Rv) (g : M (List Rv)) : M (List Rv) := bnd f fun x => bnd g fun xs => ret (x :: xs)
variable {es : List Expr} {e : Expr} {fs : M (List Rv)}
theorem va_nil : VA X [] W [] aNil := pa_imp pa_nil fun σ H Q ⟨F, ρ, fp, o, E, e, P⟩ => by
  cases ok_inj e
  exact P _ H F fp (.refl E) .nil
theorem va_cons (ha : VE X T1 W e fa) (hb : VA X T2 W es fs) (hs : starEach (e :: es) X.env = (false, eval e X.env) :: starEach es X.env := by rfl) : VA X (T1 ++ T2) W (e :: es) (aCons fa fs) :=
  pa_imp (pa_cons ha hb hs) fun σ H Q ⟨F, ρ, fp, o, E, e, P⟩ => by
    refine tv_bnd E e P (fun i hi => List.mem_append_left _ hi) fun x ρ1 v H1 F1 fp1 s1 r1 e1 P1 => ?_
    refine tv_bnd s1.env e1 P1 (fun i hi => List.mem_append_right _ hi) fun y ρ2 w H2 F2 fp2 s2 r2 e2 P2 => ?_
    cases ok_inj e2
    exact P2 _ H2 F2 fp2 (.refl s2.env) (.cons (RvOk.step s2 r1) r2)
noncomputable def datas : List Rv → Option (List PyData)
  | [] => some []
  | .d x :: rs => (datas rs).map (x :: ·)
  | .o _ :: _ => none
theorem datas_ok {K : Fg} {F : Hp} {σ : Sg} {ρ : Rho} : ∀ {vs : List V} {rs : List Rv} {ds : List PyData}, RvsOk K F σ ρ vs rs → datas rs = some ds → DqAll K F vs ds
  | _, _, _, .nil, e => by simp only [datas] at e; cases e; exact .nil
  | _, .d x :: rs, _, .cons h t, e => by
    simp only [datas] at e
    cases q : datas rs with
    | none => rw [q] at e; cases e
    | some ds => rw [q] at e; cases e; exact .cons h (datas_ok t q)
  | _, .o _ :: _, _, .cons _ _, e => by simp [datas] at e
noncomputable def small (n : Nat) : Bool := decide (n ≤ sizeLine)
noncomputable def mkTup (rs : List Rv) : M Rv := fun ρ => match datas rs with
  | some ds => if small ds.length then some (.ok (.d (.tuple ds)) ρ) else none
  | none => none
noncomputable def cTup (fs : M (List Rv)) : M Rv := bnd fs mkTup
theorem ve_tup {x1} (h : VA X T W es fs) : VE X T W (.Tuple es x1 pos) (cTup fs) := pe_imp (pe_tup h) fun σ H Q ⟨F, ρ, fp, o, E, e, P⟩ => by
  refine tv_bnd E e P (fun i hi => hi) fun rs ρ1 vs H1 F1 fp1 s1 r1 e1 P1 => ?_
  unfold mkTup at e1
  split at e1
  · rename_i ds hd
    split at e1
    · rename_i hz
      cases ok_inj e1
      have q := datas_ok r1 hd
      refine ⟨by rw [dqAll_len q]; exact of_decide_eq_true hz, fun p np => P1 _ _ _ fp1 ((Grow.new (.tup vs) s1.env.sub np).step s1.env) ?_⟩
      exact .tup upd_same (dqAll_mono (same_upd (s1.env.sub.free np)) _ _ q)
    · cases e1
  · cases e1
noncomputable def mkLst (rs : List Rv) : M Tr := fun ρ => match datas rs with
  | some ds => if small ds.length then some (.ok (.lst (ds.map .dat)) ρ) else none
  | none => none
noncomputable def nLst (fs : M (List Rv)) : M Tr := bnd fs mkLst
theorem new_lst {K : Fg} {T : List Nat} {F H : Hp} {σ : Sg} {ρ : Rho} {fp : FP} {p : Addr} {vs : List V} {ds : List PyData} (E : EnvOk K F H σ ρ fp) (np : H p = none) (q : DqAll K F vs ds) :
    EStep K T F H σ ρ fp F (upd H p (.lst vs)) ρ fp ∧ NewOk K H fp F (upd H p (.lst vs)) fp (.ref p) (.lst (ds.map .dat)) [p] := by
  refine ⟨(Grow.lay (.lst vs) E.sub np).step E, .lst upd_same (E.sub.free np) (trs_dat q), by simp, fun b hb => ?_, fun b hb ho => ?_⟩
  · rw [List.mem_singleton.mp hb]; exact .inl np
  · rw [List.mem_singleton.mp hb] at ho
    exact (E.there ho).1 np
theorem vn_lst (h : VA X T W es fs) : VN X T W (.List es pos) (nLst fs) := pe_imp (pe_lst h) fun σ H Q ⟨F, ρ, fp, o, E, e, P⟩ => by
  refine tv_bnd E e P (fun i hi => hi) fun rs ρ1 vs H1 F1 fp1 s1 r1 e1 P1 => ?_
  unfold mkLst at e1
  split at e1
  · rename_i ds hd
    split at e1
    · rename_i hz
      cases ok_inj e1
      have q := datas_ok r1 hd
      refine ⟨by rw [dqAll_len q]; exact of_decide_eq_true hz, fun p np => ?_⟩
      have z := new_lst (T := T) s1.env np q
      exact P1 _ _ _ fp1 z.1 ⟨_, z.2⟩
    · cases e1
  · cases e1
noncomputable def cFrz (f : M Tr) : M Rv := bnd f fun t => fun ρ => match t.toD with
  | some d => some (.ok (.d d) ρ)
  | none => none
theorem frz_step {K : Fg} {T : List Nat} {F H : Hp} {σ : Sg} {ρ : Rho} {fp : FP} {A : List Addr} (E : EnvOk K F H σ ρ fp) (hA : ∀ b ∈ A, H b ≠ none ∧ F b = none) (hn : ∀ b ∈ A, ∀ ps, H b ≠ some (.tbl ps)) (ho : ∀ b ∈ A, ¬ Owns fp b) :
    EnvOk K (frz F H A) H σ ρ fp := by
  refine ⟨frz_sub E.sub, E.len, fun i s h => ?_, E.nil, E.nd, E.ap, E.tb.frz (fun b hb => (hA b hb).2) hn, E.al⟩
  have q := E.sl i s h
  have s1 : Same F (frz F H A) := frz_same fun b hb => (hA b hb).2
  cases s with
  | no => trivial
  | al _ _ => trivial
  | val d => obtain ⟨u, e1, e2⟩ := q; exact ⟨u, e1, dq_mono s1 _ _ e2⟩
  | own m t =>
    obtain ⟨u, e1, e2⟩ := q
    refine ⟨u, e1, e2.move s1 fun b hb => ⟨rfl, ?_⟩⟩
    unfold frz
    rw [if_neg fun z => ho b z ⟨i, hb⟩]
    exact (e2.mem b hb).2
theorem tv_frz {K : Fg} {f : M Tr} {σ : Sg} {H : Hp} {Q : VK} (h : tV K T W (cFrz f) σ H Q) : tVN K T W f σ H Q := by
  obtain ⟨F, ρ, fp, o, E, e, P⟩ := h
  unfold cFrz bnd at e
  cases hf : f ρ with
  | none => rw [hf] at e; cases e
  | some r =>
    cases r with
    | ex c ρ1 => rw [hf] at e; cases e; exact ⟨F, ρ, fp, _, E, hf, fun H1 F1 fp1 st => P H1 F1 fp1 st⟩
    | ok t ρ1 =>
      rw [hf] at e
      refine ⟨F, ρ, fp, _, E, hf, fun v H1 F1 fp1 s1 ⟨A, n⟩ => ?_⟩
      simp only at e
      split at e
      · rename_i d hd
        cases ok_inj e
        have hA := n.ok.mem
        have E2 := frz_step (T := T) s1.env hA n.ok.ntb n.out
        refine P v H1 (frz F1 H1 A) fp1 ⟨⟨E2, s1.st.fr.trans (frz_same fun b hb => (hA b hb).2), fun b h h' => ?_, s1.st.dom, s1.st.frame, s1.st.own, s1.st.pin, s1.st.lock⟩, s1.ko, s1.un⟩ ?_
        · by_cases hb : b ∈ A
          · exact (n.new b hb).imp_right .inl
          · unfold frz at h'
            rw [if_neg hb] at h'
            exact s1.st.nf b h h'
        · refine n.ok.dp (frz_same fun b hb => (hA b hb).2) (fun b hb => ?_) hd
          unfold frz
          rw [if_pos hb]
      · cases e
theorem ve_frz {f : M Tr} (h : VN X T W e f) : VE X T W e (cFrz f) := pe_imp h fun σ H Q q => tv_frz q
noncomputable def nDat (f : M Rv) : M Tr := bnd f fun x => fun ρ => match x with
  | .d d => some (.ok (.dat d) ρ)
  | .o _ => none
theorem vn_dat (h : VE X T W e fa) : VN X T W e (nDat fa) := pe_imp h fun σ H Q ⟨F, ρ, fp, o, E, q, P⟩ => by
  refine tv_bnd E q P (fun i hi => hi) fun x ρ1 v H1 F1 fp1 s1 r1 e1 P1 => ?_
  cases x with
  | o i => cases e1
  | d d =>
    cases ok_inj e1
    exact P1 _ _ _ fp1 (.refl s1.env) ⟨[], .dat r1, List.nodup_nil, (fun b hb => nomatch hb), (fun b hb => nomatch hb)⟩
end
end VL

end

section
set_option Elab.async false
set_option linter.all false
set_option maxRecDepth 100000
set_option exponentiation.threshold 3000
namespace VL
open PySem PySem.Spec PyProof.Rows L2

section
variable {X : Cx} {T T1 T2 T3 : List Nat} {W : WV} {K : Fg}
theorem opr_or {f : Value → Value → Sem Value} {r r' : R2} (h : OpR X f r) (h' : OpR X f r') : OpR X f (fun x y H Q => r x y H Q ∨ r' x y H Q) :=
  fun pins s σ H x y v u Q I rx ry q => q.elim (h pins s σ H x y v u Q I rx ry) (h' pins s σ H x y v u Q I rx ry)
theorem lstR {pins : List (Addr × Obj)} {σ : Sg} {H : Hp} {s : Shared} {l : Addr} {xs : List V} (I : Inv X pins σ H s) (hH : Rd H l (.lst xs)) : xs.length ≤ sizeLine ∧ ∃ (its : List Value) (n : Nat), Vals xs its ∧ xs.length = its.length ∧ s.heap.get? l = some { cls := .type "list", data := .seq its.toArray n } := by
  obtain ⟨z, its, n, r, e⟩ := hH.ok I.hok
  exact ⟨z, its, n, r, r.length, e⟩
noncomputable def rCatR : R2 := fun x y H Q => ∃ l b xs zs, x = .ref l ∧ y = .ref b ∧ Rd H l (.lst xs) ∧ Rd H b (.lst zs) ∧ xs.length + zs.length ≤ sizeLine ∧ ∀ p, H p = none → Q (.ref p) (upd H p (.lst (xs ++ zs)))
theorem op_catR : OpR X (binaryOp .Add) rCatR := by
  intro pins s σ H x y v u Q I rx ry h
  obtain ⟨l, b, xs, zs, rfl, rfl, hH, hB, hz, q⟩ := h
  cases rx
  cases ry
  obtain ⟨z, its, n, r, hl, e⟩ := lstR I hH
  obtain ⟨z2, its2, n2, r2, hl2, e2⟩ := lstR I hB
  refine PySem.P.add_list e e2 ?_ (by rw [List.size_toArray, List.size_toArray]; omega)
  have ea : its.toArray ++ its2.toArray = (its ++ its2).toArray := by simp
  rw [ea]
  exact ⟨.ref _, _, I.lnew (t' := s.toks) (r.append r2) (by rw [List.length_append]; omega), rfl, q _ I.fresh⟩
theorem rep_all {F : Hp} {vs : List V} {ds : List PyData} (h : DqAll K F vs ds) : ∀ n : Nat, DqAll K F (List.replicate n vs).flatten (List.replicate n ds).flatten
  | 0 => .nil
  | n + 1 => by
    rw [List.replicate_succ, List.replicate_succ, List.flatten_cons, List.flatten_cons]
    exact dqAll_app h (rep_all h n)

noncomputable def addD : PyData → PyData → Option PyData
  | .int i, .int j => some (.int (i + j))
  | .tuple xs, .tuple ys => if small (xs.length + ys.length) then some (.tuple (xs ++ ys)) else none
  | .list xs, .list ys => if small (xs.length + ys.length) then some (.list (xs ++ ys)) else none
  | .str x, .str y => if small (x.length + y.length) then some (.str (x ++ y)) else none
  | _, _ => none
noncomputable def rAddD (K : Fg) : R2 := fun x y H Q => ((rI0 fun i j => .int (i + j)) x y H Q ∨ rCatA K x y H Q) ∨ rCatR x y H Q ∨ (∃ i j, x = .str i ∧ y = .str j ∧ i.length + j.length ≤ sizeLine ∧ Q (.str (i ++ j)) H)
theorem op_addD : OpR X (binaryOp .Add) (rAddD X.K) := opr_or (opr_or op_add op_catA) (opr_or op_catR op_add_str)
theorem small_iff {n : Nat} : small n = true ↔ n ≤ sizeLine := by unfold small; exact decide_eq_true_iff
theorem ok_addD : OpOk K (rAddD K) addD := by
  intro F H x y dx dy z Q s hx hy e k
  unfold addD at e
  split at e
  · cases e
    cases hx.int; cases hy.int
    exact .inl (.inl ⟨_, _, rfl, rfl, k _ F H (.refl s) (.int _)⟩)
  · rename_i xs ys
    split at e
    · rename_i hz
      cases e
      obtain ⟨a, vs, rfl, h1, h2, h3⟩ := hx.tup s
      obtain ⟨b, ws, rfl, h4, h5, h6⟩ := hy.tup s
      refine .inl (.inr ⟨a, b, vs, ws, rfl, rfl, h1, h4, by rw [dqAll_len h2, dqAll_len h5]; exact small_iff.mp hz, fun e0 => ?_, fun _ e0 => ?_, fun _ _ p np => ?_⟩)
      · subst e0
        cases h2
        exact k _ F H (.refl s) h6
      · subst e0
        cases h5
        rw [List.append_nil] at k
        exact k _ F H (.refl s) h3
      · exact k _ _ _ (.new _ s np) (.tup upd_same (dqAll_mono (same_upd (s.free np)) _ _ (dqAll_app h2 h5)))
    · cases e
  · rename_i xs ys
    split at e
    · rename_i hz
      cases e
      obtain ⟨a, vs, rfl, h1, h2⟩ := hx.list s
      obtain ⟨b, ws, rfl, h4, h5⟩ := hy.list s
      refine .inr (.inl ⟨a, b, vs, ws, rfl, rfl, h1, h4, by rw [dqAll_len h2, dqAll_len h5]; exact small_iff.mp hz, fun p np => ?_⟩)
      exact k _ _ _ (.new _ s np) (.lst (.inl upd_same) (dqAll_mono (same_upd (s.free np)) _ _ (dqAll_app h2 h5)))
    · cases e
  · split at e
    · rename_i hz
      cases e
      cases hx.str; cases hy.str
      exact .inr (.inr ⟨_, _, rfl, rfl, small_iff.mp hz, k _ F H (.refl s) (.str _)⟩)
    · cases e
  · cases e
noncomputable def subtD : PyData → PyData → Option PyData
  | .int i, .int j => some (.int (i - j))
  | _, _ => none
theorem ok_subtD : OpOk K (rI0 fun i j => .int (i - j)) subtD := by
  intro F H x y dx dy z Q s hx hy e k
  unfold subtD at e
  split at e
  · cases e
    cases hx.int; cases hy.int
    exact ⟨_, _, rfl, rfl, k _ F H (.refl s) (.int _)⟩
  · cases e
noncomputable def lim : Nat := 2 ^ 2000
noncomputable def mulD : PyData → PyData → Option PyData
  | .int i, .int j => if i.natAbs < lim ∧ j.natAbs < lim then some (.int (i * j)) else none
  | _, _ => none
theorem ok_mulD : OpOk K (rI CMulW fun i j => .int (i * j)) mulD := by
  intro F H x y dx dy z Q s hx hy e k
  unfold mulD at e
  split at e
  · split at e
    · rename_i h
      cases e
      cases hx.int; cases hy.int
      refine ⟨_, _, rfl, rfl, ?_, k _ F H (.refl s) (.int _)⟩
      exact wide_mul (a := 2000) (b := 2000) h.1 h.2 (by decide) (by decide) (by decide)
    · cases e
  · cases e
noncomputable def modD : PyData → PyData → Option PyData
  | .int i, .int j => if 0 < j then some (.int (i % j)) else none
  | _, _ => none
theorem ok_modD : OpOk K (rI (fun _ j => 0 < j) fun i j => .int (i % j)) modD := by
  intro F H x y dx dy z Q s hx hy e k
  unfold modD at e
  split at e
  · split at e
    · rename_i h
      cases e
      cases hx.int; cases hy.int
      exact ⟨_, _, rfl, rfl, h, k _ F H (.refl s) (.int _)⟩
    · cases e
  · cases e
noncomputable def fdivD : PyData → PyData → Option PyData
  | .int i, .int j => if 0 < j ∧ j.natAbs < lim then some (.int (i / j)) else none
  | _, _ => none
theorem ok_fdivD : OpOk K (rI CDivW fun i j => .int (i / j)) fdivD := by
  intro F H x y dx dy z Q s hx hy e k
  unfold fdivD at e
  split at e
  · split at e
    · rename_i h
      cases e
      cases hx.int; cases hy.int
      exact ⟨_, _, rfl, rfl, wide_div (b := 2000) h.1 h.2 (by decide) (by decide), k _ F H (.refl s) (.int _)⟩
    · cases e
  · cases e
noncomputable def powD : PyData → PyData → Option PyData
  | .int i, .int j => if 0 ≤ j ∧ j ≤ 1000 ∧ i.natAbs < 1000000 then some (.int (i ^ j.toNat)) else none
  | _, _ => none
theorem ok_powD : OpOk K (rI CPow fun i j => .int (i ^ j.toNat)) powD := by
  intro F H x y dx dy z Q s hx hy e k
  unfold powD at e
  split at e
  · split at e
    · rename_i h
      cases e
      cases hx.int; cases hy.int
      exact ⟨_, _, rfl, rfl, ⟨h.1, by omega, Nat.lt_trans h.2.2 (by decide)⟩, k _ F H (.refl s) (.int _)⟩
    · cases e
  · cases e
variable {fa fb fc : M Rv} {a b c : Expr} {pos : Pos}
theorem ve_add (ha : VE X T1 W a fa) (hb : VE X T2 W b fb) : VE X (T1 ++ T2) W (.BinOp a .Add b pos) (cBin addD fa fb) := ve_bin op_addD ok_addD ha hb
theorem ve_sub (ha : VE X T1 W a fa) (hb : VE X T2 W b fb) : VE X (T1 ++ T2) W (.BinOp a .Sub b pos) (cBin subtD fa fb) := ve_bin op_sub ok_subtD ha hb
theorem ve_mul (ha : VE X T1 W a fa) (hb : VE X T2 W b fb) : VE X (T1 ++ T2) W (.BinOp a .Mult b pos) (cBin mulD fa fb) := ve_bin op_mulW ok_mulD ha hb
theorem ve_mod (ha : VE X T1 W a fa) (hb : VE X T2 W b fb) : VE X (T1 ++ T2) W (.BinOp a .Mod b pos) (cBin modD fa fb) := ve_bin op_mod ok_modD ha hb
theorem ve_fdiv (ha : VE X T1 W a fa) (hb : VE X T2 W b fb) : VE X (T1 ++ T2) W (.BinOp a .FloorDiv b pos) (cBin fdivD fa fb) := ve_bin op_fdivW ok_fdivD ha hb
theorem ve_pow (ha : VE X T1 W a fa) (hb : VE X T2 W b fb) : VE X (T1 ++ T2) W (.BinOp a .Pow b pos) (cBin powD fa fb) := ve_bin op_pow ok_powD ha hb
noncomputable def cNeg (f : M Rv) : M Rv := bnd f fun x => fun ρ => match x with
  | .d (.int i) => some (.ok (.d (.int (-i))) ρ)
  | _ => none
noncomputable def icmp (p : Int → Int → Bool) : PyData → PyData → Option Bool
  | .int i, .int j => some (p i j)
  | _, _ => none
theorem ok_icmp {p : Int → Int → Bool} : OpOkD K (rI0 fun i j => .bl (p i j)) (icmp p) := by
  intro H x y dx dy z Q hx hy e k
  unfold icmp at e
  split at e
  · cases e
    cases hx; cases hy
    exact ⟨_, _, rfl, rfl, k⟩
  · cases e
noncomputable abbrev ltD := icmp fun i j => decide (i < j)
noncomputable abbrev leD := icmp fun i j => decide (i ≤ j)
noncomputable abbrev gtD := icmp fun i j => decide (j < i)
noncomputable abbrev geD := icmp fun i j => decide (j ≤ i)
noncomputable def eqD (d e : PyData) : Option Bool := if SeqAt.shaped d && SeqAt.shaped e then some (PyData.eqv d e) else none
noncomputable def neD (d e : PyData) : Option Bool := if SeqAt.shaped d && SeqAt.shaped e then some (!PyData.eqv d e) else none
theorem ok_eqD : OpOkD K (rEqD K) eqD := by
  intro H x y dx dy z Q hx hy e k
  unfold eqD at e
  split at e
  · rename_i h
    cases e
    rw [Bool.and_eq_true] at h
    exact ⟨dx, dy, dq_dp _ _ (SeqAt.canLay_of_shaped h.1) hx, dq_dp _ _ (SeqAt.canLay_of_shaped h.2) hy, h.1, h.2, k⟩
  · cases e
theorem ok_neD : OpOkD K (rNeD K) neD := by
  intro H x y dx dy z Q hx hy e k
  unfold neD at e
  split at e
  · rename_i h
    cases e
    rw [Bool.and_eq_true] at h
    exact ⟨dx, dy, dq_dp _ _ (SeqAt.canLay_of_shaped h.1) hx, dq_dp _ _ (SeqAt.canLay_of_shaped h.2) hy, h.1, h.2, k⟩
  · cases e
noncomputable def flatD : PyData → Bool
  | .none => true
  | .bool _ => true
  | .int _ => true
  | .str _ => true
  | _ => false
theorem flatD_ok {H : Hp} {v : V} {d : PyData} (h : Dq K H v d) (f : flatD d = true) : flatV v = true := by
  cases h <;> first | rfl | (exact absurd (show false = true from f) Bool.false_ne_true)
theorem eqV_ok {H : Hp} {v w : V} {d e : PyData} (h : Dq K H v d) (h' : Dq K H w e) (f : flatD d = true) (f' : flatD e = true) : eqV v w = PyData.eqv d e := by
  cases h <;> cases h' <;> first | (exact absurd (show false = true from f) Bool.false_ne_true) | (exact absurd (show false = true from f') Bool.false_ne_true) | rfl | simp [eqV, PyData.eqv]
theorem flat_all {H : Hp} : ∀ {vs : List V} {ds : List PyData}, DqAll K H vs ds → ds.all flatD = true → vs.all flatV = true
  | _, _, .nil, _ => rfl
  | _, _, .cons h t, f => by
    rw [List.all_cons, Bool.and_eq_true] at f ⊢
    exact ⟨flatD_ok h f.1, flat_all t f.2⟩
theorem inV_ok {H : Hp} {v : V} {d : PyData} (h : Dq K H v d) (f : flatD d = true) : ∀ {vs : List V} {ds : List PyData}, DqAll K H vs ds → ds.all flatD = true → inV v vs = ds.any fun z => PyData.eqv z d
  | _, _, .nil, _ => rfl
  | _, _, .cons h1 t, f1 => by
    rw [List.all_cons, Bool.and_eq_true] at f1
    have := inV_ok h f t f1.2
    unfold inV at this ⊢
    rw [List.any_cons, List.any_cons, this, eqV_ok h1 h f1.1 f]
noncomputable def inD (d c : PyData) : Option Bool := match c with
  | .list ds => if SeqAt.shaped d && SeqAt.shaped (.list ds) then some (ds.any fun z => PyData.eqv z d) else none
  | .tuple ds => if flatD d && ds.all flatD then some (ds.any fun z => PyData.eqv z d) else none
  | .str y => (match d with
    | .str x => some (!(Builtin.Str.occurrences y x 0 y.length 1).isEmpty)
    | _ => none)
  | _ => none
noncomputable def notInD (d c : PyData) : Option Bool := (inD d c).map (!·)
noncomputable def rNotInA (K : Fg) : R2 := fun x y H Q => (rNotInD K x y H Q ∨ rIn K true x y H Q) ∨ (∃ i j, x = .str i ∧ y = .str j ∧ Q (.bl (!(!(Builtin.Str.occurrences j i 0 j.length 1).isEmpty))) H)
theorem op_notInA (hu : X.A.units + 65 < cLine) : OpR X (compareOp .NotIn) (rNotInA X.K) := opr_or (opr_or (op_notInD hu) op_notIn_seq) op_notin_str
theorem ok_notInD : OpOkD K (rNotInA K) notInD := by
  intro H x y dx dy z Q hx hy e k
  unfold notInD at e
  cases q : inD dx dy with
  | none => rw [q] at e; cases e
  | some b =>
    rw [q] at e
    cases e
    unfold inD at q
    split at q
    · split at q
      · rename_i h
        cases q
        rw [Bool.and_eq_true] at h
        exact .inl (.inl ⟨dx, _, dq_dp _ _ (SeqAt.canLay_of_shaped h.1) hx, dq_dp _ _ (SeqAt.canLay_of_shaped h.2) hy, h.1, h.2, k⟩)
      · cases q
    · split at q
      · rename_i h
        cases q
        rw [Bool.and_eq_true] at h
        cases hy with
        | tups hs ha =>
          refine .inl (.inr ⟨_, _, rfl, .inr hs.sq, flatD_ok hx h.1, flat_all ha h.2, ?_⟩)
          simp only [if_true]
          rw [inV_ok hx h.1 ha h.2]
          exact k
      · cases q
    · split at q
      · cases q
        cases hx; cases hy
        exact .inr ⟨_, _, rfl, rfl, k⟩
      · cases q
    · cases q
noncomputable def isNon : PyData → Bool
  | .none => true
  | _ => false
noncomputable def isND (d e : PyData) : Option Bool := match e with
  | .none => some (isNon d)
  | _ => none
noncomputable def notND (d e : PyData) : Option Bool := (isND d e).map (!·)
section
variable {a : Expr} {fa : M Rv} {pos p : Pos} {x : Str} {t : Addr} {ds : List PyData}
noncomputable def KTup (K : Fg) (t : Addr) (ds : List PyData) : Prop := ∃ vs, (∀ F : Hp, SqT K F t vs) ∧ ∀ F : Hp, DqAll K F vs ds
end

noncomputable def subD : PyData → PyData → Option PyData
  | .list xs, .int i => atI xs i
  | .tuple xs, .int i => atI xs i
  | .str z, .int i => if small z.length then (atI z.cps.toList i).map fun c => .str ⟨#[c]⟩ else none
  | .dict kvs, .int i => (atI kvs i).map (·.1)
  | _, _ => none
theorem atI_map {α β : Type} {f : α → β} {xs : List α} {i : Int} : atI (xs.map f) i = (atI xs i).map f := by
  unfold atI
  rw [List.length_map]
  cases ixN xs.length i with
  | none => rfl
  | some j => simp
theorem atI_ok {F : Hp} {vs : List V} {ds : List PyData} {i : Int} {d : PyData} (h : DqAll K F vs ds) (e : atI ds i = some d) : ∃ v, atI vs i = some v ∧ Dq K F v d := by
  unfold atI at e ⊢
  rw [dqAll_len h]
  cases q : ixN ds.length i with
  | none => rw [q] at e; cases e
  | some j =>
    rw [q] at e
    exact dqAll_get h e
theorem ok_subD : OpOk K (rIx K) subD := by
  intro F H x y dx dy z Q s hx hy e k
  unfold subD at e
  split at e
  · obtain ⟨a, vs, rfl, h1, h2⟩ := hx.list s
    cases hy.int
    obtain ⟨v, e1, e2⟩ := atI_ok h2 e
    exact .inl ⟨a, vs, _, v, rfl, rfl, .inl h1, e1, k _ F H (.refl s) e2⟩
  · obtain ⟨a, vs, rfl, h1, h2, _⟩ := hx.tup s
    cases hy.int
    obtain ⟨v, e1, e2⟩ := atI_ok h2 e
    exact .inr (.inl ⟨a, vs, _, v, rfl, rfl, h1, e1, k _ F H (.refl s) e2⟩)
  · split at e
    · rename_i z' i hz
      cases hx.str; cases hy.int
      cases q : atI z'.cps.toList i with
      | none => rw [q] at e; cases e
      | some c =>
        rw [q] at e; cases e
        exact .inr (.inr ⟨_, _, c, rfl, rfl, small_iff.mp hz, q, k _ F H (.refl s) (.str _)⟩)
    · cases e
  · rename_i kvs i
    rcases hx with hx | ⟨_, _, _, _, z', _⟩
    · cases hx with
      | @scr a ns hs =>
        cases hy.int
        rw [atI_map] at e
        cases q : atI ns i with
        | none => rw [q] at e; cases e
        | some n =>
          rw [q] at e; cases e
          exact .inl ⟨a, _, i, .int n, rfl, rfl, s.seq hs, by rw [atI_map, q]; rfl, k _ F H (.refl s) (.int _)⟩
    · cases z'
  · cases e
theorem ve_ix (ha : VE X T1 W a fa) (hb : VE X T2 W b fb) (hs : PlainIx b := by intro _ _; rfl) : VE X (T1 ++ T2) W (.Subscript a b pos) (cBin subD fa fb) :=
  pe_imp (pe_ix ix_seq ha hb hs) fun σ H Q h => tv_bin ok_subD h
noncomputable def cutL {α : Type} (xs : List α) (lo hi : Option Int) : List α := (xs.drop (HT.sIx xs.length 0 lo)).take (HT.sIx xs.length xs.length hi - HT.sIx xs.length 0 lo)
theorem cut_ok {F : Hp} {vs : List V} {ds : List PyData} (h : DqAll K F vs ds) (lo hi : Option Int) : DqAll K F (cutV vs lo hi) (cutL ds lo hi) := by
  unfold cutV cutL
  rw [dqAll_len h]
  exact dqAll_take _ (dqAll_drop _ h)
noncomputable def cutD (d : PyData) (lo hi : Option Int) : Option PyData := match d with
  | .list xs => some (.list (cutL xs lo hi))
  | .tuple xs => some (.tuple (cutL xs lo hi))
  | .str z => if small z.length then some (.str (cutS z lo hi)) else none
  | _ => none
noncomputable def rSlD (K : Fg) : V → Option Int → Option Int → Hp → VK → Prop := fun x lo hi H Q => (rSlL K x lo hi H Q ∨ rSlA K x lo hi H Q) ∨ rSlS x lo hi H Q
theorem sl_D : SlR X (rSlD X.K) := SlR.or (SlR.or sl_list sl_tupA) sl_str
theorem ok_cutD {F H : Hp} {x : V} {dx z : PyData} {lo hi : Option Int} {Q : VK} (s : Same F H) (hx : DpS K F H x dx) (e : cutD dx lo hi = some z) (k : ∀ v F' H', Grow F H F' H' → Dq K F' v z → Q v H') : rSlD K x lo hi H Q := by
  unfold cutD at e
  split at e
  · cases e
    obtain ⟨a, vs, rfl, h1, h2⟩ := hx.list s
    refine .inl (.inl ⟨a, vs, rfl, .inl h1, fun p np => ?_⟩)
    exact k _ _ _ (.new _ s np) (.lst (.inl upd_same) (dqAll_mono (same_upd (s.free np)) _ _ (cut_ok h2 lo hi)))
  · cases e
    obtain ⟨a, vs, rfl, h1, h2, h3⟩ := hx.tup s
    refine .inl (.inr ⟨a, vs, rfl, h1, fun w => ?_, fun _ p np => ?_⟩)
    · rename_i xs
      have : cutL xs lo hi = xs := by
        unfold cutL
        rw [dqAll_len h2] at w
        rw [w.1, w.2]
        simp
      rw [this] at k
      exact k _ F H (.refl s) h3
    · exact k _ _ _ (.new _ s np) (.tup upd_same (dqAll_mono (same_upd (s.free np)) _ _ (cut_ok h2 lo hi)))
  · split at e
    · rename_i hz
      cases e
      cases hx.str
      exact .inr ⟨_, rfl, small_iff.mp hz, k _ F H (.refl s) (.str _)⟩
    · cases e
  · cases e
noncomputable def rlO (K : Fg) : Rl K (Option Int) (Option Int) := ⟨fun _ _ _ _ _ _ _ v r => v = r, fun _ h => h⟩
noncomputable def VO (X : Cx) (T : List Nat) (W : WV) (e : Option Expr) (f : M (Option Int)) : Prop := PO X e (fun σ H Q => TVg T W (rlO X.K) f σ H Q)
theorem po_imp {e : Option Expr} {t t' : TO} (h : PO X e t) (i : ∀ σ H Q, t' σ H Q → t σ H Q) : PO X e t' := ⟨fun pins s σ H Q I q => h.run pins s σ H Q I (i σ H Q q)⟩
noncomputable def oNone : M (Option Int) := ret none
noncomputable def oSome (f : M Rv) : M (Option Int) := bnd f fun x => fun ρ => match x with
  | .d (.int i) => some (.ok (some i) ρ)
  | _ => none
theorem vo_none : VO X [] W none oNone := po_imp po_none fun σ H Q ⟨F, ρ, fp, o, E, e, P⟩ => by
  cases ok_inj e
  exact P _ H F fp (.refl E) rfl
theorem vo_some (ha : VE X T W a fa) : VO X T W (some a) (oSome fa) := po_imp (po_some ha) fun σ H Q ⟨F, ρ, fp, o, E, e, P⟩ => by
  refine tv_bnd E e P (fun i hi => hi) fun x ρ1 v H1 F1 fp1 s1 r1 e1 P1 => ?_
  split at e1
  · cases ok_inj e1
    cases r1
    exact ⟨_, rfl, P1 _ H1 F1 fp1 (.refl s1.env) rfl⟩
  · cases e1
noncomputable def cut1 (x : Rv) (lo hi : Option Int) : M Rv := fun ρ => match derS ρ x with
  | some d => (match cutD d lo hi with
    | some z => some (.ok (.d z) ρ)
    | none => none)
  | none => none
noncomputable def cCut (f : M Rv) (fl fh : M (Option Int)) : M Rv := bnd f fun x => bnd fl fun lo => bnd fh fun hi => cut1 x lo hi
variable {fl fh : M (Option Int)} {lo hi : Option Expr} {p2 : Pos}
theorem ve_cut (ha : VE X T1 W a fa) (hl : VO X T2 W lo fl) (hh : VO X T3 W hi fh) : VE X (T1 ++ T2 ++ T3) W (.Subscript a (.Slice lo hi none p2) pos) (cCut fa fl fh) :=
  pe_imp (pe_slice sl_D ha hl hh) fun σ H Q ⟨F, ρ, fp, o, E, e, P⟩ => by
    refine tv_bnd E e P (fun i hi => List.mem_append_left _ (List.mem_append_left _ hi)) fun x ρ1 v H1 F1 fp1 s1 r1 e1 P1 => ?_
    refine tv_bnd s1.env e1 P1 (fun i hi => List.mem_append_left _ (List.mem_append_right _ hi)) fun l ρ2 l' H2 F2 fp2 s2 r2 e2 P2 => ?_
    refine tv_bnd s2.env e2 P2 (fun i hi => List.mem_append_right _ hi) fun u ρ3 u' H3 F3 fp3 s3 r3 e3 P3 => ?_
    have r2 : l' = l := r2
    have r3 : u' = u := r3
    subst r2 r3
    unfold cut1 at e3
    split at e3
    · rename_i d hd
      split at e3
      · rename_i z hz
        cases ok_inj e3
        exact ok_cutD s3.env.sub (derS_ok s3.env (RvOk.step s3 (RvOk.step s2 r1)) hd) hz fun v' F4 H4 gr dp => P3 v' H4 F4 fp3 (gr.step s3.env) dp
      · cases e3
    · cases e3

inductive DpSs (K : Fg) (F H : Hp) : List V → List PyData → Prop
  | nil : DpSs K F H [] []
  | cons {v vs d ds} : DpS K F H v d → DpSs K F H vs ds → DpSs K F H (v :: vs) (d :: ds)
noncomputable def derSs (ρ : Rho) : List Rv → Option (List PyData)
  | [] => some []
  | r :: rs => match derS ρ r, derSs ρ rs with
    | some d, some ds => some (d :: ds)
    | _, _ => none
theorem derSs_ok {F H : Hp} {σ : Sg} {ρ : Rho} {fp : FP} (E : EnvOk K F H σ ρ fp) : ∀ {vs : List V} {rs : List Rv} {ds : List PyData}, RvsOk K F σ ρ vs rs → derSs ρ rs = some ds → DpSs K F H vs ds
  | _, _, _, .nil, e => by simp only [derSs] at e; cases e; exact .nil
  | _, r :: rs, _, .cons h t, e => by
    simp only [derSs] at e
    split at e
    · rename_i d ds hd hds
      cases e
      exact .cons (derS_ok E h hd) (derSs_ok E t hds)
    · cases e
noncomputable def CallOk (K : Fg) (r : List V → Hp → VK → Prop) (g : List PyData → Option PyData) : Prop := ∀ F H vs ds z Q, Same F H → DpSs K F H vs ds → g ds = some z → (∀ v F' H', Grow F H F' H' → Dq K F' v z → Q v H') → r vs H Q
noncomputable def call1 (g : List PyData → Option PyData) (rs : List Rv) : M Rv := fun ρ => match derSs ρ rs with
  | some ds => (match g ds with
    | some z => some (.ok (.d z) ρ)
    | none => none)
  | none => none
noncomputable def cCall (g : List PyData → Option PyData) (fs : M (List Rv)) : M Rv := bnd fs (call1 g)
variable {g : List PyData → Option PyData} {fs : M (List Rv)} {rc : List V → Hp → VK → Prop} {es : List Expr} {e : Expr} {id Ty : String} {x : Str} {p : Pos}
theorem tv_call {σ : Sg} {H : Hp} {Q : VK} (hg : CallOk X.K rc g) (h : tV X.K T W (cCall g fs) σ H Q) : tCB rc (tVA X.K T W fs) σ H Q := by
  obtain ⟨F, ρ, fp, o, E, e, P⟩ := h
  refine tv_bnd E e P (fun i hi => hi) fun rs ρ1 vs H1 F1 fp1 s1 r1 e1 P1 => ?_
  unfold call1 at e1
  split at e1
  · rename_i ds hd
    split at e1
    · rename_i z hz
      cases ok_inj e1
      exact hg F1 H1 vs ds z Q s1.env.sub (derSs_ok s1.env r1 hd) hz fun v' F4 H4 gr dp => P1 v' H4 F4 fp1 (gr.step s1.env) dp
    · cases e1
  · cases e1
theorem ve_callB (hc : CallR X (.builtin id) rc) (hk : CallOk X.K rc g) (hg : Gl X x) (hm : X.mg x = none) (hv : bootBuiltins x = some (.builtin id)) (ha : VA X T W (e :: es) fs) (hn : x ≠ "__name__" := by decide) (hdb : (x == ("__debug__" : Str)) = false := by decide)
    (he : starEach (e :: es) X.env = (false, eval e X.env) :: starEach es X.env := by rfl) (hpl : (backTo pos (starEach es X.env)).any (·.1) = false := by rfl) : VE X T W (.Call (.Name x p) (e :: es) [] pos) (cCall g fs) :=
  pe_imp (pe_callB hc hg hm hv ha hn hdb he hpl) fun σ H Q h => tv_call hk h
theorem ve_callTy (hc : CallR X (.type Ty) rc) (hk : CallOk X.K rc g) (hg : Gl X x) (hm : X.mg x = none) (hv : bootBuiltins x = some (.type Ty)) (ha : VA X T W (e :: es) fs) (hn : x ≠ "__name__" := by decide) (hdb : (x == ("__debug__" : Str)) = false := by decide)
    (he : starEach (e :: es) X.env = (false, eval e X.env) :: starEach es X.env := by rfl) (hpl : (backTo pos (starEach es X.env)).any (·.1) = false := by rfl) : VE X T W (.Call (.Name x p) (e :: es) [] pos) (cCall g fs) :=
  pe_imp (pe_callTy hc hg hm hv ha hn hdb he hpl) fun σ H Q h => tv_call hk h
noncomputable def lenD : List PyData → Option PyData
  | [.list xs] => some (.int xs.length)
  | [.tuple xs] => some (.int xs.length)
  | [.str z] => if small z.length then some (.int z.length) else none
  | [.dict kvs] => some (.int kvs.length)
  | _ => none
theorem ok_lenD : CallOk K (fun xs H Q => ∃ x n, xs = [x] ∧ LenV K x H n ∧ Q (.int n) H) lenD := by
  intro F H vs ds z Q s h e k
  unfold lenD at e
  split at e
  · cases h with
    | cons h t =>
      cases t
      cases e
      obtain ⟨a, ws, rfl, h1, h2⟩ := h.list s
      exact ⟨_, ws.length, rfl, .inl ⟨ws, .inl h1, rfl⟩, k _ F H (.refl s) (by rw [dqAll_len h2]; exact .int _)⟩
  · cases h with
    | cons h t =>
      cases t
      cases e
      obtain ⟨a, ws, rfl, h1, h2, _⟩ := h.tup s
      exact ⟨_, ws.length, rfl, .inr ⟨ws, h1, rfl⟩, k _ F H (.refl s) (by rw [dqAll_len h2]; exact .int _)⟩
  · cases h with
    | cons h t =>
      cases t
      split at e
      · rename_i hz
        cases e
        cases h.str
        exact ⟨_, _, rfl, ⟨small_iff.mp hz, rfl⟩, k _ F H (.refl s) (.int _)⟩
      · cases e
  · cases h with
    | cons h t =>
      cases t
      cases e
      rcases h with h | ⟨_, _, _, _, z', _⟩
      · cases h with
        | @scr a ns hs => exact ⟨_, _, rfl, .inl ⟨_, s.seq hs, rfl⟩, k _ F H (.refl s) (by rw [List.length_map, List.length_map]; exact .int _)⟩
      · cases z'
  · cases e
noncomputable def absD : List PyData → Option PyData
  | [.int i] => some (.int (if i < 0 then -i else i))
  | _ => none
noncomputable def min2D : List PyData → Option PyData
  | [.int i, .int j] => some (.int (if j < i then j else i))
  | _ => none
noncomputable def max2D : List PyData → Option PyData
  | [.int i, .int j] => some (.int (if j > i then j else i))
  | _ => none
theorem ok_min2D : CallOk K (fun xs H Q => ∃ i j, xs = [.int i, .int j] ∧ Q (.int (if j < i then j else i)) H) min2D := by
  intro F H vs ds z Q s h e k
  unfold min2D at e
  split at e
  · cases h with
    | cons h t =>
      cases t with
      | cons h2 t =>
        cases t
        cases e
        cases h.int; cases h2.int
        exact ⟨_, _, rfl, k _ F H (.refl s) (.int _)⟩
  · cases e
noncomputable def intD : List PyData → Option PyData
  | [.int i] => some (.int i)
  | [.bool b] => some (.int (if b then 1 else 0))
  | _ => none
theorem ok_intD : CallOk K (fun xs H Q => (∃ i, xs = [.int i] ∧ Q (.int i) H) ∨ ∃ k, xs = [.bl k] ∧ Q (.int (if k then 1 else 0)) H) intD := by
  intro F H vs ds z Q s h e k
  unfold intD at e
  split at e
  · cases h with
    | cons h t =>
      cases t
      cases e
      cases h.int
      exact .inl ⟨_, rfl, k _ F H (.refl s) (.int _)⟩
  · cases h with
    | cons h t =>
      cases t
      cases e
      cases h.bl
      exact .inr ⟨_, rfl, k _ F H (.refl s) (.int _)⟩
  · cases e
noncomputable def tupleD : List PyData → Option PyData
  | [.list xs] => some (.tuple xs)
  | [.tuple xs] => some (.tuple xs)
  | _ => none
theorem ok_tupleD : CallOk K (fun xs H Q => ∃ p ys, xs = [.ref p] ∧ ((SqL K H p ys ∧ ∀ l, H l = none → Q (.ref l) (upd H l (.tup ys))) ∨ (SqT K H p ys ∧ Q (.ref p) H))) tupleD := by
  intro F H vs ds z Q s h e k
  unfold tupleD at e
  split at e
  · cases h with
    | cons h t =>
      cases t
      cases e
      obtain ⟨a, ws, rfl, h1, h2⟩ := h.list s
      exact ⟨a, ws, rfl, .inl ⟨.inl h1, fun l nl => k _ _ _ (.new _ s nl) (.tup upd_same (dqAll_mono (same_upd (s.free nl)) _ _ h2))⟩⟩
  · cases h with
    | cons h t =>
      cases t
      cases e
      obtain ⟨a, ws, rfl, h1, h2, h3⟩ := h.tup s
      exact ⟨a, ws, rfl, .inr ⟨h1, k _ F H (.refl s) h3⟩⟩
  · cases e
noncomputable def listD : List PyData → Option PyData
  | [.list xs] => some (.list xs)
  | [.tuple xs] => some (.list xs)
  | _ => none
theorem ok_listD : CallOk K (fun xs H Q => ∃ p ys, xs = [.ref p] ∧ (SqL K H p ys ∨ SqT K H p ys) ∧ ∀ l, H l = none → Q (.ref l) (upd H l (.lst ys))) listD := by
  intro F H vs ds z Q s h e k
  unfold listD at e
  split at e
  · cases h with
    | cons h t =>
      cases t
      cases e
      obtain ⟨a, ws, rfl, h1, h2⟩ := h.list s
      exact ⟨a, ws, rfl, .inl (.inl h1), fun l nl => k _ _ _ (.new _ s nl) (.lst (.inl upd_same) (dqAll_mono (same_upd (s.free nl)) _ _ h2))⟩
  · cases h with
    | cons h t =>
      cases t
      cases e
      obtain ⟨a, ws, rfl, h1, h2, h3⟩ := h.tup s
      exact ⟨a, ws, rfl, .inr h1, fun l nl => k _ _ _ (.new _ s nl) (.lst (.inl upd_same) (dqAll_mono (same_upd (s.free nl)) _ _ h2))⟩
  · cases e

noncomputable def tyD : PyData → String
  | .none => "NoneType"
  | .bool _ => "bool"
  | .int _ => "int"
  | .str _ => "str"
  | .list _ => "list"
  | .tuple _ => "tuple"
  | .dict _ => "dict"
theorem tyX_of {H : Hp} {v : V} {d : PyData} (h : Dq K H v d) (hd : ∀ kvs, d ≠ .dict kvs) : TyX K H v (.type (tyD d)) := by
  cases h with
  | non => exact .base .non
  | bl b => exact .base (.bl b)
  | int b => exact .base (.int b)
  | str b => exact .base (.str b)
  | lst hs _ =>
    rcases hs with hs | ⟨o, hs⟩
    · exact .base (.lst hs)
    · exact .base (.frz hs)
  | tups hs _ =>
    rcases hs with hs | ⟨_, o, its, n, h1, h2, _⟩
    · exact .base (.tup hs)
    · exact .kTuple h1 h2
  | scr _ => exact absurd rfl (hd _)
inductive BT where
  | int | bool | str | tuple | list
noncomputable def BT.nm : BT → String
  | .int => "int"
  | .bool => "bool"
  | .str => "str"
  | .tuple => "tuple"
  | .list => "list"
noncomputable def isiD (B : BT) (d : PyData) : Option Bool := match d with
  | .none => some false
  | .bool _ => some (match B with | .int => true | .bool => true | _ => false)
  | .int _ => some (match B with | .int => true | _ => false)
  | .str _ => some (match B with | .str => true | _ => false)
  | .list _ => some (match B with | .list => true | _ => false)
  | .tuple _ => some (match B with | .tuple => true | _ => false)
  | .dict _ => none
theorem isiD_ok {B : BT} {d : PyData} {b : Bool} (h : isiD B d = some b) : (∀ kvs, d ≠ .dict kvs) ∧ PySem.W.kitOne K (.type (tyD d)) (.type B.nm) = some b := by
  cases d
  case dict kvs => cases h
  all_goals
    refine ⟨(fun kvs z => nomatch z), ?_⟩
    cases B
    all_goals
      cases h
      simp only [tyD, BT.nm]
      exact kit_ty (by decide +kernel)
noncomputable def cIsi (B : BT) (f : M Rv) : M Rv := bnd f fun x => fun ρ => match der ρ x with
  | some d => (match isiD B d with
    | some b => some (.ok (.d (.bool b)) ρ)
    | none => none)
  | none => none
end
end VL

end

section
set_option Elab.async false
set_option linter.all false
set_option maxRecDepth 100000
namespace VL
open PySem PySem.Spec PyProof.Rows L2

inductive Out where
  | nx (ρ : Rho)
  | rt (t : Tr) (ρ : Rho)
  | bk (ρ : Rho)
  | ct (ρ : Rho)
  | ex (c : Str) (ρ : Rho)
noncomputable abbrev MS := Rho → Option Out
noncomputable def SPst (K : Fg) (W : WV) (F H : Hp) (σ : Sg) (ρ : Rho) (fp : FP) (D : Ends) : Out → Prop
  | .nx ρ' => ∀ σ' H' F' fp', Step K F H σ ρ fp F' H' σ' ρ' fp' → D.nx σ' H'
  | .bk ρ' => ∀ σ' H' F' fp', Step K F H σ ρ fp F' H' σ' ρ' fp' → D.bk σ' H'
  | .ct ρ' => ∀ σ' H' F' fp', Step K F H σ ρ fp F' H' σ' ρ' fp' → D.ct σ' H'
  | .rt t ρ' => ∀ v A σ' H' F' fp', Step K F H σ ρ fp F' H' σ' ρ' fp' → NewOk K H fp F' H' fp' v t A → D.rt v H'
  | .ex c ρ' => ∀ σ' H' F' fp', Step K F H σ ρ fp F' H' σ' ρ' fp' → W c σ' H'
theorem NewOk.back {K : Fg} {F H F1 H1 F2 H2 : Hp} {σ σ1 : Sg} {ρ ρ1 : Rho} {fp fp1 fp2 : FP} {v : V} {t : Tr} {A : List Addr} (s : Step K F H σ ρ fp F1 H1 σ1 ρ1 fp1) (h : NewOk K H1 fp1 F2 H2 fp2 v t A) : NewOk K H fp F2 H2 fp2 v t A :=
  ⟨h.ok, h.nd, fun b hb => (h.new b hb).elim (fun z => .inl (s.dom b z)) fun z => (s.own b z).symm, h.out⟩
theorem SPst.step {K : Fg} {W : WV} {F H F1 H1 : Hp} {σ σ1 : Sg} {ρ ρ1 : Rho} {fp fp1 : FP} {D : Ends} (s : Step K F H σ ρ fp F1 H1 σ1 ρ1 fp1) : ∀ {o : Out}, SPst K W F H σ ρ fp D o → SPst K W F1 H1 σ1 ρ1 fp1 D o
  | .nx _, h => fun σ' H' F' fp' e => h σ' H' F' fp' (s.trans e)
  | .bk _, h => fun σ' H' F' fp' e => h σ' H' F' fp' (s.trans e)
  | .ct _, h => fun σ' H' F' fp' e => h σ' H' F' fp' (s.trans e)
  | .rt _ _, h => fun v A σ' H' F' fp' e n => h v A σ' H' F' fp' (s.trans e) (n.back s)
  | .ex _ _, h => fun σ' H' F' fp' e => h σ' H' F' fp' (s.trans e)
noncomputable def tS (K : Fg) (W : WV) (g : MS) : TS := fun D σ H => ∃ F ρ fp o, EnvOk K F H σ ρ fp ∧ g ρ = some o ∧ SPst K W F H σ ρ fp D o
noncomputable def VS (X : Cx) (W : WV) (st : Stmt) (g : MS) : Prop := PS X st (tS X.K W g)
noncomputable def VSs (X : Cx) (W : WV) (st : List Stmt) (g : MS) : Prop := PSs X st (tS X.K W g)

section
variable {X : Cx} {T T1 T2 : List Nat} {W : WV} {K : Fg} {st : Stmt} {rest : List Stmt} {g h : MS} {fa : M Rv} {fn : M Tr} {e : Expr} {pos : Pos}
noncomputable def sNil : MS := fun ρ => some (.nx ρ)
noncomputable def sSeq (g h : MS) : MS := fun ρ => match g ρ with
  | some (.nx ρ1) => h ρ1
  | o => o
theorem vss_nil : VSs X W [] sNil := pss_imp pss_nil fun D σ H ⟨F, ρ, fp, o, E, e, P⟩ => by
  cases (Option.some.inj e)
  exact P σ H F fp (.refl E)
theorem vss_cons (h1 : VS X W st g) (h2 : VSs X W rest h) : VSs X W (st :: rest) (sSeq g h) := pss_imp (pss_cons h1 h2) fun D σ H ⟨F, ρ, fp, o, E, e, P⟩ => by
  unfold sSeq at e
  cases q : g ρ with
  | none => rw [q] at e; cases e
  | some r =>
    rw [q] at e
    cases r with
    | nx ρ1 => exact ⟨F, ρ, fp, _, E, q, fun σ' H' F' fp' s => ⟨F', ρ1, fp', o, s.env, e, P.step s⟩⟩
    | rt t ρ1 => cases e; exact ⟨F, ρ, fp, _, E, q, P⟩
    | bk ρ1 => cases e; exact ⟨F, ρ, fp, _, E, q, P⟩
    | ct ρ1 => cases e; exact ⟨F, ρ, fp, _, E, q, P⟩
    | ex c ρ1 => cases e; exact ⟨F, ρ, fp, _, E, q, P⟩
theorem vss_one (h1 : VS X W st g) : VSs X W [st] g := pss_one h1
noncomputable def sE {α : Type} (f : M α) (k : α → MS) : MS := fun ρ => match f ρ with
  | some (.ok a ρ1) => k a ρ1
  | some (.ex c ρ1) => some (.ex c ρ1)
  | none => none
theorem tv_st {α β : Type} {R : Rl K α β} {f : M α} {k : α → MS} {F H : Hp} {σ : Sg} {ρ : Rho} {fp : FP} {o : Out} {D : Ends} {Q1 : β → Hp → Prop} (E : EnvOk K F H σ ρ fp) (e : sE f k ρ = some o) (P : SPst K W F H σ ρ fp D o)
    (hk : ∀ a ρ1 b H1 F1 fp1, EStep K T F H σ ρ fp F1 H1 ρ1 fp1 → R.r H fp F1 H1 fp1 σ ρ1 b a → k a ρ1 = some o → SPst K W F1 H1 σ ρ1 fp1 D o → Q1 b H1) : TVg T W R f σ H Q1 := by
  unfold sE at e
  cases q : f ρ with
  | none => rw [q] at e; cases e
  | some r =>
    rw [q] at e
    cases r with
    | ok a ρ1 => exact ⟨F, ρ, fp, _, E, q, fun b H1 F1 fp1 st r => hk a ρ1 b H1 F1 fp1 st r e (P.step st.st)⟩
    | ex c ρ1 => cases e; exact ⟨F, ρ, fp, _, E, q, fun H1 F1 fp1 st => P σ H1 F1 fp1 st.st⟩
noncomputable def sRet (f : M Tr) : MS := sE f fun t => fun ρ => some (.rt t ρ)
theorem vs_ret (h : VN X T W e fn) : VS X W (.Return (some e) pos) (sRet fn) := ps_imp (ps_ret h) fun D σ H ⟨F, ρ, fp, o, E, e, P⟩ => by
  refine tv_st E e P fun t ρ1 v H1 F1 fp1 s1 r1 e1 _ => ?_
  cases (Option.some.inj e1)
  obtain ⟨A, n⟩ := r1
  exact P v A σ H1 F1 fp1 s1.st n
noncomputable def sRetN : MS := fun ρ => some (.rt (.dat .none) ρ)
noncomputable def setSl (ρ : Rho) (i : Nat) (s : Sl) : Option Rho := match ρ[i]? with
  | some (.own .pin _) => none
  | some (.own .lock _) => none
  | some (.own (.bor _) _) => none
  | some _ => some (ρ.set i s)
  | none => none
theorem setSl_some {ρ ρ' : Rho} {i : Nat} {s : Sl} (h : setSl ρ i s = some ρ') : ρ' = ρ.set i s ∧ i < ρ.length ∧ (∀ m t, ρ[i]? = some (.own m t) → m.pn = false) ∧ (∀ t, ρ[i]? ≠ some (.own .lock t)) := by
  unfold setSl at h
  cases q : ρ[i]? with
  | none => rw [q] at h; cases h
  | some s0 =>
    have hi := (List.getElem?_eq_some_iff.mp q).1
    rw [q] at h
    cases s0 with
    | no => cases h; exact ⟨rfl, hi, (fun m t z => nomatch z), (fun t z => nomatch z)⟩
    | al _ _ => cases h; exact ⟨rfl, hi, (fun m t z => nomatch z), (fun t z => nomatch z)⟩
    | val d => cases h; exact ⟨rfl, hi, (fun m t z => nomatch z), (fun t z => nomatch z)⟩
    | own m t0 =>
      cases m with
      | free => cases h; exact ⟨rfl, hi, (fun m t z => by cases z; rfl), (fun t z => nomatch z)⟩
      | pin => cases h
      | lock => cases h
      | bor _ => cases h
noncomputable def fset (fp : FP) (i : Nat) (A : List Addr) : FP := fun j => if j = i then A else fp j
theorem sg_set {σ : Sg} {i : Nat} {v : Option V} (h : i < σ.length) : sg (σ.set i v) i = v := by
  unfold sg
  rw [List.getElem?_set_self h]
  rfl
theorem sg_set_ne {σ : Sg} {i j : Nat} {v : Option V} (h : i ≠ j) : sg (σ.set i v) j = sg σ j := by
  unfold sg
  rw [List.getElem?_set_ne h]
noncomputable def isOwn : Sl → Bool
  | .own _ _ => true
  | _ => false
noncomputable def plainSl : Sl → Bool
  | .al _ _ => false
  | .own (.bor _) _ => false
  | _ => true
theorem set_env {F H : Hp} {σ : Sg} {ρ : Rho} {fp : FP} {i : Nat} {v : V} {s : Sl} {A : List Addr} (E : EnvOk K F H σ ρ fp) (hi : i < ρ.length) (hs : SlOk K F H (some v) A s) (hn : A.Nodup) (ho : ∀ b ∈ A, ¬ Owns fp b) (ha : isOwn s = false → A = []) (hp : plainSl s = true := by rfl) :
    EnvOk K F H (σ.set i (some v)) (ρ.set i s) (fset fp i A) := by
  have hσ : i < σ.length := by rw [E.len]; exact hi
  refine ⟨E.sub, by rw [List.length_set, List.length_set]; exact E.len, fun j u hu => ?_, fun j hj => ?_, fun j => ?_, fun j l b h1 h2 => ?_, E.tb, E.al' (fun j k p h => ?_) fun k p t h => ?_⟩
  rotate_left 4
  · by_cases hji : i = j
    · subst hji
      rw [List.getElem?_set_self hi] at h
      cases h
      cases hp
    · rw [List.getElem?_set_ne hji] at h
      exact ⟨h, sg_set_ne hji⟩
  · by_cases hji : i = k
    · subst hji
      rw [List.getElem?_set_self hi] at h
      cases h
      cases hp
    · rw [List.getElem?_set_ne hji] at h
      exact ⟨h, sg_set_ne hji, fun _ _ => rfl⟩
  · by_cases hji : i = j
    · subst hji
      rw [List.getElem?_set_self hi] at hu
      cases hu
      rw [sg_set hσ]
      unfold fset
      rw [if_pos rfl]
      exact hs
    · rw [List.getElem?_set_ne hji] at hu
      rw [sg_set_ne hji]
      unfold fset
      rw [if_neg (Ne.symm hji)]
      exact E.sl j u hu
  · unfold fset
    by_cases hji : j = i
    · rw [if_pos hji]
      subst hji
      apply ha
      cases s with
      | own m t => exact absurd (List.getElem?_set_self hi) (hj m t)
      | _ => rfl
    · rw [if_neg hji]
      refine E.nil j fun m t z => hj m t ?_
      rw [List.getElem?_set_ne (Ne.symm hji)]
      exact z
  · unfold fset
    split
    · exact hn
    · exact E.nd j
  · unfold fset at h1 h2
    split at h1
    · split at h2
      · omega
      · exact absurd ⟨l, h2⟩ (ho b h1)
    · split at h2
      · exact absurd ⟨j, h1⟩ (ho b h2)
      · exact E.ap j l b h1 h2
theorem Owns.fset {fp : FP} {i : Nat} {A : List Addr} {b : Addr} (h : Owns (fset fp i A) b) : b ∈ A ∨ Owns fp b := by
  obtain ⟨j, h⟩ := h
  unfold VL.fset at h
  split at h
  · exact .inl h
  · exact .inr ⟨j, h⟩
theorem set_step {F H F1 H1 : Hp} {σ : Sg} {ρ ρ1 ρ2 : Rho} {fp fp1 : FP} {i : Nat} {v : V} {s : Sl} {A : List Addr} (s1 : Step K F H σ ρ fp F1 H1 σ ρ1 fp1) (hset : setSl ρ1 i s = some ρ2) (hs : SlOk K F1 H1 (some v) A s) (hn : A.Nodup)
    (ho : ∀ b ∈ A, ¬ Owns fp1 b) (ha : isOwn s = false → A = []) (hw : ∀ b ∈ A, H b = none ∨ Owns fp b) (hp : plainSl s = true := by rfl) : Step K F H σ ρ fp F1 H1 (σ.set i (some v)) ρ2 (fset fp1 i A) := by
  obtain ⟨rfl, hi, np, nl⟩ := setSl_some hset
  refine ⟨set_env s1.env hi hs hn ho ha hp, s1.fr, s1.nf, s1.dom, s1.frame, fun b hb => ?_, fun j m t hj hm => ?_, fun j t hj => ?_⟩
  · rcases hb.fset with z | z
    · exact (hw b z).symm
    · exact s1.own b z
  · obtain ⟨e1, m', t', h1, k1⟩ := s1.pin j m t hj hm
    have hji : i ≠ j := fun z => by subst z; rw [np m' t' h1] at k1; cases k1
    exact ⟨by rw [sg_set_ne hji], m', t', by rw [List.getElem?_set_ne hji]; exact h1, k1⟩
  · obtain ⟨e1, h1, f1, g1⟩ := s1.lock j t hj
    have hji : i ≠ j := fun z => by subst z; exact nl t h1
    refine ⟨by rw [sg_set_ne hji], by rw [List.getElem?_set_ne hji]; exact h1, ?_, g1⟩
    unfold fset
    rw [if_neg (Ne.symm hji)]
    exact f1
noncomputable def putD (i : Nat) (d : PyData) : MS := fun ρ => (setSl ρ i (.val d)).map .nx
noncomputable def sSet (i : Nat) (f : M Rv) : MS := sE f fun x => match x with
  | .d d => putD i d
  | .o _ => fun _ => none
theorem put_val {F H F1 H1 : Hp} {σ : Sg} {ρ ρ1 ρ2 : Rho} {fp fp1 : FP} {i : Nat} {v : V} {d : PyData} (s1 : Step K F H σ ρ fp F1 H1 σ ρ1 fp1) (hset : setSl ρ1 i (.val d) = some ρ2) (hd : Dq K F1 v d) : Step K F H σ ρ fp F1 H1 (σ.set i (some v)) ρ2 (fset fp1 i []) :=
  set_step s1 hset ⟨v, rfl, hd⟩ List.nodup_nil (fun b hb => nomatch hb) (fun _ => rfl) (fun b hb => nomatch hb)
theorem map_some {α β : Type} {f : α → β} {o : Option α} {b : β} (h : o.map f = some b) : ∃ a, o = some a ∧ b = f a := by
  cases o with
  | none => cases h
  | some a => exact ⟨a, rfl, (Option.some.inj h).symm⟩
theorem vs_set {i : Nat} {x : Str} {pos' : Pos} (hN : X.N.Nodup) (he : VE X T W e fa) (hi : X.N[i]? = some x := by rfl) (hx : Loc X.env.scope x := by first | exact Or.inl rfl | exact Or.inr rfl) (hs : swapsWith e (some (.Name x pos')) pos.line X.env = pure false := by rfl)
    (hf : X.fn x = true ∨ X.env.scope.names.lookup x = some .local := by first | exact .inl rfl | exact .inr rfl | assumption) : VS X W (.Assign [.Name x pos'] e pos) (sSet i fa) :=
  ps_imp (ps_set hN hi hx he hs hf) fun D σ H ⟨F, ρ, fp, o, E, e, P⟩ => by
    refine tv_st E e P fun r ρ1 v H1 F1 fp1 s1 r1 e1 _ => ?_
    cases r with
    | o _ => cases e1
    | d d =>
      obtain ⟨ρ2, e2, rfl⟩ := map_some e1
      exact P _ H1 F1 _ (put_val s1.st e2 r1)
noncomputable def sSetN (i : Nat) (f : M Tr) : MS := sE f fun t => fun ρ => (setSl ρ i (.own .free t)).map .nx
theorem vs_setN {i : Nat} {x : Str} {pos' : Pos} (hN : X.N.Nodup) (he : VN X T W e fn) (hi : X.N[i]? = some x := by rfl) (hx : Loc X.env.scope x := by first | exact Or.inl rfl | exact Or.inr rfl) (hs : swapsWith e (some (.Name x pos')) pos.line X.env = pure false := by rfl)
    (hf : X.fn x = true ∨ X.env.scope.names.lookup x = some .local := by first | exact .inl rfl | exact .inr rfl | assumption) : VS X W (.Assign [.Name x pos'] e pos) (sSetN i fn) :=
  ps_imp (ps_set hN hi hx he hs hf) fun D σ H ⟨F, ρ, fp, o, E, e, P⟩ => by
    refine tv_st E e P fun t ρ1 v H1 F1 fp1 s1 ⟨A, n⟩ e1 _ => ?_
    obtain ⟨ρ2, e2, rfl⟩ := map_some e1
    exact P _ H1 F1 _ (set_step s1.st e2 ⟨v, rfl, n.ok⟩ n.nd n.out (fun z => nomatch z) n.new)
noncomputable abbrev MG := PyData → Rho → Option Rho
noncomputable def Off (vs : List Nat) (σ : Sg) (ρ : Rho) (fp : FP) (σ' : Sg) (ρ' : Rho) (fp' : FP) : Prop := σ'.length = σ.length ∧ ∀ (i : Nat), i ∉ vs → sg σ' i = sg σ i ∧ ρ'[i]? = ρ[i]? ∧ fp' i = fp i
theorem Off.refl {vs : List Nat} {σ : Sg} {ρ : Rho} {fp : FP} : Off vs σ ρ fp σ ρ fp := ⟨rfl, fun _ _ => ⟨rfl, rfl, rfl⟩⟩
theorem Off.trans {us vs : List Nat} {σ σ1 σ2 : Sg} {ρ ρ1 ρ2 : Rho} {fp fp1 fp2 : FP} (a : Off us σ ρ fp σ1 ρ1 fp1) (b : Off vs σ1 ρ1 fp1 σ2 ρ2 fp2) : Off (us ++ vs) σ ρ fp σ2 ρ2 fp2 :=
  ⟨b.1.trans a.1, fun i hi => by
    obtain ⟨a1, a2, a3⟩ := a.2 i fun z => hi (List.mem_append_left _ z)
    obtain ⟨b1, b2, b3⟩ := b.2 i fun z => hi (List.mem_append_right _ z)
    exact ⟨b1.trans a1, b2.trans a2, b3.trans a3⟩⟩
noncomputable def GOk (K : Fg) (g : TG) (ws : List Nat) (G : MG) : Prop := ∀ v σ H Q F ρ fp d ρ', EnvOk K F H σ ρ fp → Dq K F v d → G d ρ = some ρ' → (∀ σ' fp', Step K F H σ ρ fp F H σ' ρ' fp' → Off ws σ ρ fp σ' ρ' fp' → Q σ' H) → g v σ H Q
noncomputable def VG (X : Cx) (tg : Expr) (g : TG) (ws : List Nat) (G : MG) : Prop := PG X tg g ∧ GOk X.K g ws G
noncomputable def gN (i : Nat) : MG := fun d ρ => setSl ρ i (.val d)
theorem vg_name {i : Nat} {x : Str} (hN : X.N.Nodup) (hi : X.N[i]? = some x := by rfl) (hx : Loc X.env.scope x := by first | exact Or.inl rfl | exact Or.inr rfl) (hf : X.fn x = true ∨ X.env.scope.names.lookup x = some .local := by first | exact .inl rfl | exact .inr rfl | assumption) : VG X (.Name x pos) (gName i) [i] (gN i) :=
  ⟨pg_name hN hi hx hf, fun v σ H Q F ρ fp d ρ' E hd e k => k _ _ (put_val (.refl E) e hd) (by
    obtain ⟨rfl, h2, h3, h4⟩ := setSl_some e
    refine ⟨List.length_set, fun j hj => ?_⟩
    have hij : i ≠ j := fun z => hj (by simp [z])
    refine ⟨sg_set_ne hij, List.getElem?_set_ne hij, ?_⟩
    unfold fset
    rw [if_neg (Ne.symm hij)])⟩
noncomputable abbrev MGs := List PyData → Rho → Option Rho
noncomputable def VGs (X : Cx) (tgs : List Expr) (g : TGs) (ws : List Nat) (G : MGs) : Prop := PGs X tgs g ∧ ∀ vs σ H Q F ρ fp ds ρ', EnvOk X.K F H σ ρ fp → DqAll X.K F vs ds → G ds ρ = some ρ' → (∀ σ' fp', Step X.K F H σ ρ fp F H σ' ρ' fp' → Off ws σ ρ fp σ' ρ' fp' → Q σ' H) → g vs σ H Q
noncomputable def gsN : MGs := fun ds ρ => match ds with
  | [] => some ρ
  | _ => none
noncomputable def gsC (G : MG) (Gs : MGs) : MGs := fun ds ρ => match ds with
  | d :: r => (match G d ρ with
    | some ρ1 => Gs r ρ1
    | none => none)
  | [] => none
theorem vgs_nil : VGs X [] gNil [] gsN := ⟨pgs_nil, fun vs σ H Q F ρ fp ds ρ' E hd e k => by
  unfold gsN at e
  split at e
  · cases hd
    cases e
    exact ⟨rfl, k σ fp (.refl E) .refl⟩
  · cases e⟩
theorem vgs_cons {tg : Expr} {tgs : List Expr} {us vs : List Nat} {g : TG} {gs : TGs} {G : MG} {Gs : MGs} (h1 : VG X tg g us G) (h2 : VGs X tgs gs vs Gs) (hs : (assignEach (tg :: tgs) X.env).map (·.2) = assign tg X.env :: (assignEach tgs X.env).map (·.2) := by rfl) : VGs X (tg :: tgs) (gCons g gs) (us ++ vs) (gsC G Gs) := by
  obtain ⟨p1, q1⟩ := h1
  obtain ⟨p2, q2⟩ := h2
  refine ⟨pgs_cons p1 p2 hs, fun vs σ H Q F ρ fp ds ρ' E hd e k => ?_⟩
  unfold gsC at e
  split at e
  · cases hd with
    | cons hv hr =>
      split at e
      · rename_i ρ1 e1
        refine ⟨_, _, rfl, q1 _ σ H _ F ρ fp _ ρ1 E hv e1 fun σ1 fp1 s1 o1 => ?_⟩
        exact q2 _ σ1 H Q F ρ1 fp1 _ ρ' s1.env hr e fun σ' fp' s2 o2 => k σ' fp' (s1.trans s2) (o1.trans o2)
      · cases e
  · cases e
noncomputable def gT (n : Nat) (Gs : MGs) : MG := fun d ρ => match d with
  | .tuple ds => if ds.length = n then Gs ds ρ else none
  | _ => none
theorem vg_tup {es : List Expr} {k n : Nat} {vs : List Nat} {gs : TGs} {Gs : MGs} (hc : X.calm = true) (h : VGs X es gs vs Gs) (hn : (assignEach es X.env).length = n := by rfl) (hst : (assignEach es X.env).findIdx? (·.1) = none := by rfl) : VG X (.Tuple es k pos) (gTup X.K n gs) vs (gT n Gs) := by
  obtain ⟨p1, q1⟩ := h
  refine ⟨pg_tup hc p1 hn hst, fun v σ H Q F ρ fp d ρ' E hd e k => ?_⟩
  unfold gT at e
  split at e
  · split at e
    · rename_i hl
      cases hd with
      | tups hs ha => exact ⟨_, _, rfl, (hs.mono E.sub).sq, by rw [dqAll_len ha]; exact hl, q1 _ σ H Q F ρ fp _ ρ' E ha e k⟩
    · cases e
  · cases e
noncomputable def sAsg (G : MG) (f : M Rv) : MS := sE f fun x => fun ρ => match x with
  | .d d => (G d ρ).map .nx
  | .o _ => none
theorem vs_asg {tg : Expr} {gt : TG} {ws : List Nat} {G : MG} (he : VE X T W e fa) (hg : VG X tg gt ws G) (hs : swapsWithSole [tg] e pos.line X.env = pure false := by rfl) (hw : swappedStores [tg] e X.env = pure none := by rfl)
    (h1 : (assignEach [tg] X.env).map (·.2) = [assign tg X.env] := by rfl) : VS X W (.Assign [tg] e pos) (sAsg G fa) := by
  obtain ⟨p1, q1⟩ := hg
  refine ps_imp (ps_asg he p1 hs hw h1) fun D σ H ⟨F, ρ, fp, o, E, e, P⟩ => ?_
  refine tv_st E e P fun r ρ1 v H1 F1 fp1 s1 r1 e1 P1 => ?_
  cases r with
  | o _ => cases e1
  | d d =>
    obtain ⟨ρ2, e2, rfl⟩ := map_some e1
    exact q1 v σ H1 _ F1 ρ1 fp1 d ρ2 s1.env r1 e2 fun σ' fp' s2 _ => P1 σ' H1 F1 fp' s2
variable {fc : M Bool} {c : Expr} {body els : List Stmt}
noncomputable def sIf (c : M Bool) (g h : MS) : MS := sE c fun b => if b then g else h
theorem vs_if (hc : VT X T W c fc) (ha : VSs X W body g) (hb : VSs X W els h) : VS X W (.If c body els pos) (sIf fc g h) := ps_imp (ps_if hc ha hb) fun D σ H ⟨F, ρ, fp, o, E, e, P⟩ => by
  refine tv_st E e P fun x ρ1 v H1 F1 fp1 s1 r1 e1 P1 => ?_
  have r1 : v = x := r1
  subst r1
  cases v with
  | true =>
    rw [if_pos rfl] at e1 ⊢
    exact ⟨F1, ρ1, fp1, o, s1.env, e1, P1⟩
  | false =>
    rw [if_neg Bool.false_ne_true] at e1 ⊢
    exact ⟨F1, ρ1, fp1, o, s1.env, e1, P1⟩
noncomputable def sBk : MS := fun ρ => some (.bk ρ)
noncomputable def sCt : MS := fun ρ => some (.ct ρ)
noncomputable def sDrop (f : M Rv) : MS := sE f fun _ => sNil
noncomputable def VI (X : Cx) (T : List Nat) (W : WV) (tg iter : Expr) (f : M (List PyData)) : Prop := ∃ wi, PI X tg iter wi ∧ ∀ σ H R F ρ fp o, EnvOk X.K F H σ ρ fp → f ρ = some o →
  (match o with
   | Er.ok xs ρ' => ∀ J G Y H1 F1 fp1, EStep X.K T F H σ ρ fp F1 H1 ρ' fp1 → Walk J xs.length G Y → (∀ F2 H2, Same F1 F2 → Same F2 H2 → G H2) →
      (∀ i F2 H2 x H3, i < xs.length → Same F1 F2 → Same F2 H2 → Y i H2 x H3 → ∃ F3 d, xs[i]? = some d ∧ Grow F2 H2 F3 H3 ∧ Dq X.K F3 x d) → R J H1
   | Er.ex c ρ' => ∀ H1 F1 fp1, EStep X.K T F H σ ρ fp F1 H1 ρ' fp1 → W c σ H1) → wi σ H R
theorem pi_or {tg iter : Expr} {w w' : TI} (h : PI X tg iter w) (h' : PI X tg iter w') : PI X tg iter (fun σ H R => w σ H R ∨ w' σ H R) := ⟨fun pins s σ H R I q => q.elim (h.run pins s σ H R I) (h'.run pins s σ H R I)⟩
noncomputable def itemsOf : PyData → Option (List PyData)
  | .list xs => some xs
  | .tuple xs => some xs
  | _ => none
noncomputable def iSeq (f : M Rv) : M (List PyData) := bnd f fun x => fun ρ => match x with
  | .d d => (match itemsOf d with
    | some xs => some (.ok xs ρ)
    | none => none)
  | .o _ => none
theorem vi_seq {tg : Expr} (he : VE X T W e fa) : VI X T W tg e (iSeq fa) := by
  refine ⟨_, pi_or (pi_list he) (pi_tup he), fun σ H R F ρ fp o E q P => ?_⟩
  unfold iSeq bnd at q
  cases hf : fa ρ with
  | none => rw [hf] at q; cases q
  | some r =>
    rw [hf] at q
    cases r with
    | ex c ρ1 => cases q; exact .inl ⟨F, ρ, fp, _, E, hf, fun H1 F1 fp1 s1 => P H1 F1 fp1 s1⟩
    | ok x ρ1 =>
      cases x with
      | o i => cases q
      | d d =>
        simp only at q
        split at q
        · rename_i xs hx
          cases q
          unfold itemsOf at hx
          split at hx
          · cases hx
            refine .inl ⟨F, ρ, fp, _, E, hf, fun v H1 F1 fp1 s1 r1 => ?_⟩
            cases r1 with
            | @lst a0 vs0 _ hs ha =>
              have w0 := walk_list (K := X.K) (a := a0) (xs := vs0)
              rw [dqAll_len ha] at w0
              refine ⟨_, rfl, ⟨_, .inl (rd_mono s1.env.sub hs)⟩, P _ _ _ H1 F1 fp1 s1 w0 (fun F2 H2 a b => .inl (rd_mono (a.trans b) hs)) fun i F2 H2 x H3 hi a b y => ?_⟩
              obtain ⟨rfl, hy⟩ := y
              obtain ⟨v, hv, dv⟩ := dqAll_get ha (List.getElem?_eq_getElem hi)
              rw [hv] at hy; cases hy
              exact ⟨F2, _, List.getElem?_eq_getElem hi, .refl b, dq_mono a _ _ dv⟩
          · cases hx
            refine .inr ⟨F, ρ, fp, _, E, hf, fun v H1 F1 fp1 s1 r1 => ?_⟩
            cases r1 with
            | @tups a0 vs0 _ hs ha =>
              have w0 := walk_tup (K := X.K) (a := a0) (xs := vs0)
              rw [dqAll_len ha] at w0
              refine ⟨_, rfl, ⟨_, (hs.mono s1.env.sub).sq⟩, P _ _ _ H1 F1 fp1 s1 w0 (fun F2 H2 a b => (hs.mono (a.trans b)).sq) fun i F2 H2 x H3 hi a b y => ?_⟩
              obtain ⟨rfl, hy⟩ := y
              obtain ⟨v, hv, dv⟩ := dqAll_get ha (List.getElem?_eq_getElem hi)
              rw [hv] at hy; cases hy
              exact ⟨F2, _, List.getElem?_eq_getElem hi, .refl b, dq_mono a _ _ dv⟩
          · cases hx
        · cases q
noncomputable def rangeD (lo : Int) (n : Nat) : List PyData := (List.range n).map fun i => .int (lo + (i : Nat))
noncomputable def iRange1 (f : M (List Rv)) : M (List PyData) := bnd f fun rs => fun ρ => match rs with
  | [.d (.int j)] => if -(2 ^ 62) ≤ j ∧ j < 2 ^ 62 then some (.ok (rangeD 0 j.toNat) ρ) else none
  | _ => none
theorem rangeD_len (lo : Int) (n : Nat) : (rangeD lo n).length = n := by unfold rangeD; simp
theorem rangeD_get {lo : Int} {n i : Nat} (h : i < n) : (rangeD lo n)[i]? = some (.int (lo + (i : Nat))) := by
  unfold rangeD
  rw [List.getElem?_map, List.getElem?_range h]
  rfl
theorem vi_range1 {tg a : Expr} {fs : M (List Rv)} {p : Pos} (hg : Gl X "range") (hm : X.mg "range" = none) (ha : VA X T W [a] fs) (hs : starEach [a] X.env = [(false, eval a X.env)] := by rfl) : VI X T W tg (.Call (.Name "range" p) [a] [] pos) (iRange1 fs) := by
  refine ⟨_, pi_range1 hg hm ha hs, fun σ H R F ρ fp o E q P => ?_⟩
  unfold iRange1 bnd at q
  cases hf : fs ρ with
  | none => rw [hf] at q; cases q
  | some r =>
    rw [hf] at q
    cases r with
    | ex c ρ1 => cases q; exact ⟨F, ρ, fp, _, E, hf, fun H1 F1 fp1 s1 => P H1 F1 fp1 s1⟩
    | ok rs ρ1 =>
      refine ⟨F, ρ, fp, _, E, hf, fun vs H1 F1 fp1 s1 r1 => ?_⟩
      simp only at q
      split at q
      · split at q
        · rename_i j hj
          cases q
          cases r1 with
          | cons h t =>
            cases t
            cases h
            refine ⟨j, rfl, hj.1, hj.2, P _ _ _ H1 F1 fp1 s1 (by rw [rangeD_len]; exact walk_range) (fun _ _ _ _ => trivial) fun i F2 H2 x H3 hi a b y => ?_⟩
            obtain ⟨rfl, rfl⟩ := y
            rw [rangeD_len] at hi
            exact ⟨F2, _, rangeD_get hi, .refl b, .int _⟩
        · cases q
      · cases q
noncomputable def enumD (xs : List PyData) : List PyData := xs.zipIdx.map fun p => .tuple [.int (p.2 : Nat), p.1]
noncomputable def loopF (G : MG) (body : MS) : List PyData → MS
  | [], ρ => some (.nx ρ)
  | x :: xs, ρ => match G x ρ with
    | none => none
    | some ρ1 => match body ρ1 with
      | some (.nx ρ2) => loopF G body xs ρ2
      | some (.ct ρ2) => loopF G body xs ρ2
      | some (.bk ρ2) => some (.nx ρ2)
      | o => o
noncomputable def sFor (fi : M (List PyData)) (G : MG) (body : MS) : MS := sE fi fun xs => loopF G body xs
theorem vs_for {tg iter : Expr} {gt : TG} {ws : List Nat} {fi : M (List PyData)} {G : MG} (hp : PassesOwn (model X.prog X.w) X.A X.env X.xe) (hc : X.calm = true) (hi : VI X T W tg iter fi) (hg : VG X tg gt ws G) (hb : VSs X W body g)
    (hs : ∀ x, foldedSetIterable iter X.env x = pure x := by intro _; rfl) : VS X W (.For tg iter body [] pos) (sFor fi G g) := by
  obtain ⟨wi, p1, q1⟩ := hi
  obtain ⟨p2, q2⟩ := hg
  refine ps_imp (ps_for hp hc p1 p2 hb hs) fun D σ H ⟨F, ρ, fp, o, E, e, P⟩ => ?_
  unfold sFor sE at e
  cases hf : fi ρ with
  | none => rw [hf] at e; cases e
  | some r =>
    rw [hf] at e
    cases r with
    | ex c ρ1 => cases e; exact q1 σ H _ F ρ fp _ E hf fun H1 F1 fp1 s1 => P σ H1 F1 fp1 s1.st
    | ok xs ρ1 =>
      refine q1 σ H _ F ρ fp _ E hf fun J Gw Y H1 F1 fp1 s1 w hG hY => ?_
      have P1 := P.step s1.st
      refine for_it w (fun i σ' H' => ∃ F' ρ' fp', Step X.K F1 H1 σ ρ1 fp1 F' H' σ' ρ' fp' ∧ loopF G g (xs.drop i) ρ' = some o) ⟨F1, ρ1, fp1, .refl s1.env, by rw [List.drop_zero]; exact e⟩
        (fun i σ' H' _ ⟨F', ρ', fp', s2, _⟩ => hG F' H' s2.fr s2.env.sub) (fun i x σ' H' H3 hi ⟨F', ρ', fp', s2, e2⟩ y => ?_) fun σ' H' ⟨F', ρ', fp', s2, e2⟩ => ?_
      · obtain ⟨F3, d, hd, g3, dx⟩ := hY i F' H' x H3 hi s2.fr s2.env.sub y
        have hdrop : xs.drop i = d :: xs.drop (i + 1) := by
          obtain ⟨hi', hd'⟩ := List.getElem?_eq_some_iff.mp hd
          rw [List.drop_eq_getElem_cons hi', hd']
        rw [hdrop] at e2
        unfold loopF at e2
        have s3 : Step X.K F1 H1 σ ρ1 fp1 F3 H3 σ' ρ' fp' := s2.trans (g3.step (T := []) s2.env).st
        split at e2
        · cases e2
        · rename_i ρ4 h4
          refine q2 x σ' H3 _ F3 ρ' fp' d ρ4 s3.env dx h4 fun σ4 fp4 s4 _ => ?_
          have s5 := s3.trans s4
          split at e2
          · rename_i ρ5 h5
            exact ⟨F3, ρ4, fp4, _, s4.env, h5, fun σ6 H6 F6 fp6 s6 => ⟨F6, ρ5, fp6, s5.trans s6, e2⟩⟩
          · rename_i ρ5 h5
            exact ⟨F3, ρ4, fp4, _, s4.env, h5, fun σ6 H6 F6 fp6 s6 => ⟨F6, ρ5, fp6, s5.trans s6, e2⟩⟩
          · rename_i ρ5 h5
            cases e2
            exact ⟨F3, ρ4, fp4, _, s4.env, h5, fun σ6 H6 F6 fp6 s6 => P1 σ6 H6 F6 fp6 (s5.trans s6)⟩
          · rename_i h1' h2' h3'
            refine ⟨F3, ρ4, fp4, _, s4.env, e2, ?_⟩
            cases o with
            | nx ρ5 => exact absurd e2 (h1' ρ5)
            | ct ρ5 => exact absurd e2 (h2' ρ5)
            | bk ρ5 => exact absurd e2 (h3' ρ5)
            | rt t ρ5 => exact fun v A σ6 H6 F6 fp6 s6 n => P1 v A σ6 H6 F6 fp6 (s5.trans s6) (n.back s5)
            | ex c ρ5 => exact fun σ6 H6 F6 fp6 s6 => P1 σ6 H6 F6 fp6 (s5.trans s6)
      · rw [List.drop_length] at e2
        cases (Option.some.inj e2)
        exact P1 σ' H' F' fp' s2
end
end VL

end

section
set_option Elab.async false
set_option linter.all false
set_option maxRecDepth 100000
namespace VL
open PySem PySem.Spec PyProof.Rows L2

noncomputable def pinS : Sl → Sl
  | .own .free t => .own .pin t
  | s => s
inductive FR where
  | ret (t : Tr)
  | exc (c : Str)
noncomputable abbrev Fn := List Sl → Option (FR × List Sl)
noncomputable def entry (n : Nat) (args : List Sl) : Rho := args.map pinS ++ List.replicate (n - args.length) .no
noncomputable def runF (n : Nat) (g : MS) : Fn := fun args => match g (entry n args) with
  | some (.nx ρ') => some (.ret (.dat .none), ρ'.take args.length)
  | some (.rt t ρ') => some (.ret t, ρ'.take args.length)
  | some (.ex c ρ') => some (.exc c, ρ'.take args.length)
  | _ => none
noncomputable def Md.unb : Md → Md
  | .bor _ => .pin
  | m => m
noncomputable def Md.arg : Md → Md
  | .bor _ => .lock
  | m => m
theorem Md.unb_pn : ∀ {m : Md}, m.pn = true → m.unb = .pin
  | .pin, _ => rfl
  | .bor _, _ => rfl
noncomputable def mrg1 (a : Sl) (o : Option Sl) : Sl := match a, o with
  | .own _ _, some (.own m t) => .own m.unb t
  | .own _ _, some o => o
  | a, _ => a
noncomputable def mrg : List Sl → List Sl → List Sl
  | [], _ => []
  | a :: as, os => mrg1 a os.head? :: mrg as os.tail
theorem mrg_get : ∀ {as os : List Sl} {i : Nat} {a : Sl}, as[i]? = some a → (mrg as os)[i]? = some (mrg1 a os[i]?)
  | [], _, _, _, h => by simp at h
  | b :: as, os, 0, a, h => by
    simp at h; subst h
    cases os <;> rfl
  | b :: as, os, i + 1, a, h => by
    have := mrg_get (as := as) (os := os.tail) (i := i) (a := a) (by simpa using h)
    show (mrg as os.tail)[i]? = _
    rw [this]
    cases os <;> simp
theorem mrg_len : ∀ {as os : List Sl}, (mrg as os).length = as.length
  | [], _ => rfl
  | _ :: as, os => by simp [mrg, mrg_len (as := as)]
noncomputable abbrev WX0 := Str → XK → Hp → Prop
noncomputable def FPst (K : Fg) (Wx : WX0) (F H : Hp) (vs : List V) (args : List Sl) (fp : FP) (outs : List Sl) (Q : VK) (E : XK) : FR → Prop
  | .ret t => ∀ v A H' F' fp', Step K F H (vs.map some) args fp F' H' (vs.map some) (mrg args outs) fp' → NewOk K H fp F' H' fp' v t A → Q v H'
  | .exc c => ∀ H' F' fp', Step K F H (vs.map some) args fp F' H' (vs.map some) (mrg args outs) fp' → Wx c E H'
noncomputable def spV (K : Fg) (Wx : WX0) (m : Nat) (f : Fn) : Sp := fun vs H Q E => vs.length = m ∧ ∃ F args fp r outs, EnvOk K F H (vs.map some) args fp ∧ f args = some (r, outs) ∧ FPst K Wx F H vs args fp outs Q E r
section
variable {K : Fg}
theorem slOk_pin {F H : Hp} {v : Option V} {A : List Addr} : ∀ {s : Sl}, SlOk K F H v A s → SlOk K F H v A (pinS s)
  | .no, h => h
  | .val _, h => h
  | .own .free _, h => h
  | .own .pin _, h => h
  | .own .lock _, h => h
  | .own (.bor _) _, h => h
  | .al _ _, h => h
theorem entry_env {F H : Hp} {vs : List V} {args : List Sl} {fp : FP} {n : Nat} (E : EnvOk K F H (vs.map some) args fp) : EnvOk K F H (vs.map some ++ List.replicate (n - vs.length) none) (entry n args) fp := by
  have hl : vs.length = args.length := by have := E.len; rwa [List.length_map] at this
  have sgE : ∀ i, i < args.length → sg (vs.map some ++ List.replicate (n - vs.length) none) i = sg (vs.map some) i := fun i hi => by
    unfold sg
    rw [List.getElem?_append_left (by simpa [hl] using hi)]
  have back : ∀ (i : Nat) s, (entry n args)[i]? = some s → s ≠ .no → ∃ a, args[i]? = some a ∧ s = pinS a := fun i s h hs => by
    unfold entry at h
    by_cases hi : i < args.length
    · rw [List.getElem?_append_left (by simpa using hi), List.getElem?_map, List.getElem?_eq_getElem hi] at h
      cases h
      exact ⟨_, List.getElem?_eq_getElem hi, rfl⟩
    · rw [List.getElem?_append_right (by simpa using hi), List.getElem?_replicate] at h
      split at h
      · cases h; exact absurd rfl hs
      · cases h
  refine ⟨E.sub, by unfold entry; simp [hl], fun i s h => ?_, fun i h => ?_, E.nd, E.ap, E.tb, E.al' (fun j k p h => ?_) fun k p t h => ?_⟩
  rotate_left 2
  · obtain ⟨a, h1, h2⟩ := back j _ h (fun z => nomatch z)
    have e : a = .al k p := by
      cases a with
      | al _ _ => exact h2.symm
      | own m t => cases m <;> cases h2
      | _ => cases h2
    subst e
    exact ⟨h1, sgE j (List.getElem?_eq_some_iff.mp h1).1⟩
  · obtain ⟨a, h1, h2⟩ := back k _ h (fun z => nomatch z)
    have e : a = .own (.bor p) t := by
      cases a with
      | own m t => cases m <;> cases h2; rfl
      | _ => cases h2
    subst e
    exact ⟨h1, sgE k (List.getElem?_eq_some_iff.mp h1).1, fun _ _ => rfl⟩
  · unfold entry at h
    by_cases hi : i < args.length
    · rw [List.getElem?_append_left (by simpa using hi), List.getElem?_map, List.getElem?_eq_getElem hi] at h
      cases h
      refine slOk_pin ?_
      have q := E.sl i _ (List.getElem?_eq_getElem hi)
      have e : sg (vs.map some ++ List.replicate (n - vs.length) none) i = sg (vs.map some) i := by
        unfold sg
        rw [List.getElem?_append_left (by simpa [hl] using hi)]
      rw [e]
      exact q
    · rw [List.getElem?_append_right (by simpa using hi), List.getElem?_replicate] at h
      split at h
      · cases h; trivial
      · cases h
  · refine E.nil i fun m t z => ?_
    have hi : i < args.length := (List.getElem?_eq_some_iff.mp z).1
    have q : (entry n args)[i]? = some (pinS (.own m t)) := by
      unfold entry
      rw [List.getElem?_append_left (by simpa using hi), List.getElem?_map, z]
      rfl
    cases m with
    | free => exact h _ _ q
    | pin => exact h _ _ q
    | lock => exact h _ _ q
    | bor _ => exact h _ _ q
noncomputable def isOwnAt (args : List Sl) (i : Nat) : Bool := match args[i]? with
  | some (.own _ _) => true
  | _ => false
theorem exit_step {F H F' H' : Hp} {vs : List V} {args : List Sl} {fp fp' : FP} {n : Nat} {σ' : Sg} {ρ' : Rho} (E : EnvOk K F H (vs.map some) args fp)
    (s : Step K F H (vs.map some ++ List.replicate (n - vs.length) none) (entry n args) fp F' H' σ' ρ' fp') :
    Step K F H (vs.map some) args fp F' H' (vs.map some) (mrg args (ρ'.take args.length)) (fun i => if isOwnAt args i then fp' i else []) := by
  have hl : vs.length = args.length := by have := E.len; rwa [List.length_map] at this
  have key : ∀ (i : Nat) m t, args[i]? = some (Sl.own m t) → ∃ m' t', (mrg args (ρ'.take args.length))[i]? = some (Sl.own m'.unb t') ∧ ρ'[i]? = some (Sl.own m' t') ∧ sg σ' i = sg (vs.map some) i ∧
      (m = .lock → m' = .lock ∧ t' = t ∧ fp' i = fp i ∧ ∀ b ∈ fp i, H' b = H b) ∧ (m.pn = true → m'.pn = true) := by
    intro i m t h
    have hi : i < args.length := (List.getElem?_eq_some_iff.mp h).1
    have e : sg (vs.map some ++ List.replicate (n - vs.length) none) i = sg (vs.map some) i := by
      unfold sg
      rw [List.getElem?_append_left (by simpa [hl] using hi)]
    have q : (entry n args)[i]? = some (pinS (.own m t)) := by
      unfold entry
      rw [List.getElem?_append_left (by simpa using hi), List.getElem?_map, h]
      rfl
    have tk : (ρ'.take args.length)[i]? = ρ'[i]? := List.getElem?_take_of_lt hi
    cases m with
    | free =>
      obtain ⟨a, m', t', b, k⟩ := s.pin i _ t q rfl
      refine ⟨m', t', by rw [mrg_get h, tk, b]; rfl, b, a.trans e, (fun z => nomatch z), (fun z => nomatch z)⟩
    | pin =>
      obtain ⟨a, m', t', b, k⟩ := s.pin i _ t q rfl
      refine ⟨m', t', by rw [mrg_get h, tk, b]; rfl, b, a.trans e, (fun z => nomatch z), (fun _ => k)⟩
    | bor p =>
      obtain ⟨a, m', t', b, k⟩ := s.pin i _ t q rfl
      refine ⟨m', t', by rw [mrg_get h, tk, b]; rfl, b, a.trans e, (fun z => nomatch z), (fun _ => k)⟩
    | lock =>
      obtain ⟨a, b, c, d⟩ := s.lock i t q
      refine ⟨.lock, t, by rw [mrg_get h, tk, b]; rfl, b, a.trans e, (fun _ => ⟨rfl, rfl, c, d⟩), (fun z => nomatch z)⟩
  have ow : ∀ {b}, Owns (fun i => if isOwnAt args i then fp' i else []) b → Owns fp' b := fun {b} ⟨i, h⟩ => by
    dsimp only at h
    split at h
    · exact ⟨i, h⟩
    · cases h
  refine ⟨⟨s.env.sub, by rw [mrg_len]; exact E.len, fun i u hu => ?_, fun i hi => ?_, fun i => ?_, fun i j b h1 h2 => ?_, s.env.tb, fun j i p t h1 h2 => ?_⟩, s.fr, s.nf, s.dom, s.frame, fun b hb => s.own b (ow hb), fun i m t h hm => ?_, fun i t h => ?_⟩
  rotate_left 4
  · exfalso
    cases ha : args[i]? with
    | none =>
      have := (List.getElem?_eq_some_iff.mp h2).1
      rw [mrg_len] at this
      rw [List.getElem?_eq_none_iff] at ha
      omega
    | some a =>
      cases a with
      | own m t0 =>
        obtain ⟨m', t', e1, _⟩ := key i m t0 ha
        rw [e1] at h2
        cases m' <;> cases h2
      | no => rw [mrg_get ha] at h2; cases h2
      | val d => rw [mrg_get ha] at h2; cases h2
      | al _ _ => rw [mrg_get ha] at h2; cases h2
  · obtain ⟨m', t', e1, _, _, _, e5⟩ := key i _ t h
    refine ⟨rfl, _, t', e1, ?_⟩
    rw [Md.unb_pn (e5 hm)]
    rfl
  · obtain ⟨m', t', e1, _, _, e4, _⟩ := key i _ t h
    obtain ⟨rfl, rfl, e5, e6⟩ := e4 rfl
    have hy : isOwnAt args i = true := by unfold isOwnAt; rw [h]
    refine ⟨rfl, e1, ?_, e6⟩
    simp only [hy, if_true]
    exact e5
  · have hi : i < args.length := by
      have := (List.getElem?_eq_some_iff.mp hu).1
      rwa [mrg_len] at this
    cases ha : args[i]? with
    | none => rw [List.getElem?_eq_none_iff] at ha; omega
    | some a =>
      cases a with
      | own m t =>
        obtain ⟨m', t', e1, e2, e3, _⟩ := key i m t ha
        rw [e1] at hu; cases hu
        have q := s.env.sl i _ e2
        rw [e3] at q
        have q : SlOk K F' H' (sg (vs.map some) i) (fp' i) (.own m'.unb t') := q
        have hy : isOwnAt args i = true := by unfold isOwnAt; rw [ha]
        simp only [hy, if_true]
        exact q
      | no =>
        rw [mrg_get ha] at hu
        cases hu
        trivial
      | al _ _ =>
        rw [mrg_get ha] at hu
        cases hu
        trivial
      | val d =>
        rw [mrg_get ha] at hu
        cases hu
        obtain ⟨v, hv, hd⟩ := E.sl i _ ha
        exact ⟨v, hv, dq_mono s.fr _ _ hd⟩
  · split
    · rename_i hy
      unfold isOwnAt at hy
      split at hy
      · rename_i m t ha
        obtain ⟨m', t', e1, _⟩ := key i m t ha
        exact absurd e1 (hi _ t')
      · cases hy
    · rfl
  · split
    · exact s.env.nd i
    · exact List.nodup_nil
  · split at h1
    · split at h2
      · exact s.env.ap i j b h1 h2
      · cases h2
    · cases h1
end
section
variable {P : Program} {w : World} {K : PySem.W.Frag} {mg : Str → Option Value} {base : Heap}
noncomputable abbrev W0 : WV := fun _ _ _ => False
noncomputable abbrev Wx0 : WX0 := fun _ _ _ => False
theorem run_ok {CX : CXT} {x qual : Str} {f : Addr} {N ps : List Str} {sc : Scope} {Wx : WX0} {g : MS} {cdv : Value} {A : Around} {outer : List Env} {s : Shared} {H : Hp} {vs : List V} {Q : VK} {E : XK} (h : spV K Wx ps.length (runF N.length g) vs H Q E) :
    tS K (fun c _ H' => Wx c E H') g { nx := fun _ H' => Q .non H', rt := Q } (start N vs) H := by
  obtain ⟨hl, F, args, fp, r, outs, E0, e, P0⟩ := h
  have hla : vs.length = args.length := by have := E0.len; rwa [List.length_map] at this
  have E1 := entry_env (n := N.length) E0
  unfold runF at e
  cases q : g (entry N.length args) with
  | none => rw [q] at e; cases e
  | some o =>
    rw [q] at e
    refine ⟨F, entry N.length args, fp, o, E1, q, ?_⟩
    cases o with
    | nx ρ' =>
      cases e
      intro σ' H' F' fp' st
      exact P0 .non [] H' F' _ (exit_step E0 st) ⟨.dat .non, List.nodup_nil, (fun b hb => nomatch hb), (fun b hb => nomatch hb)⟩
    | rt t ρ' =>
      cases e
      intro v A' σ' H' F' fp' st n
      refine P0 v A' H' F' _ (exit_step E0 st) ⟨n.ok, n.nd, n.new, fun b hb z => n.out b hb ?_⟩
      obtain ⟨i, h⟩ := z
      dsimp only at h
      split at h
      · exact ⟨i, h⟩
      · cases h
    | ex c ρ' =>
      cases e
      intro σ' H' F' fp' st
      exact P0 H' F' _ (exit_step E0 st)
    | bk ρ' => cases e
    | ct ρ' => cases e
theorem fn_ok {x qual : Str} {st : Stmt} {f : Addr} {fd : FuncData} {N ps : List Str} {k : Nat} {g : MS} (F : Fun K x qual st f fd) (S : FnScope N ps (defScope st))
    (hb : ∀ (cdv : Value) (A : Around) (outer : List Env) (s : Shared) (H : Hp) (E : XK), Room k (A.deeper (envOfC qual (defScope st) s.heap.objs.size f cdv)) → VSs (cxOf CX0 P w K mg base N qual (defScope st) f cdv A outer s H E).nox W0 (defBody st) g) :
    FnOk P w K mg base CX0 (k + 1) f fd ps (spV K Wx0 ps.length (runF N.length g)) :=
  F.ok S (fun vs H Q E h => h.1) fun cdv A outer s H vs Q E hr h => ⟨_, hb cdv A outer s H E hr, run_ok (CX := CX0) (x := x) (qual := qual) (f := f) (sc := defScope st) (cdv := cdv) (A := A) (outer := outer) (s := s) h⟩
end

noncomputable def argSl (ρ : Rho) : Rv → Option Sl
  | .d x => some (.val x)
  | .o i => match ρ[i]? with
    | some (.own m t) => some (.own m.arg t)
    | _ => none
noncomputable def argSls (ρ : Rho) : List Rv → Option (List Sl)
  | [] => some []
  | r :: rs => match argSl ρ r, argSls ρ rs with
    | some a, some as => some (a :: as)
    | _, _ => none
noncomputable def posOf : List Rv → Nat → Option Nat
  | [], _ => none
  | .o j :: rs, i => if j = i then some 0 else (posOf rs i).map (· + 1)
  | .d _ :: rs, i => (posOf rs i).map (· + 1)
noncomputable def oneEach : List Rv → Bool
  | [] => true
  | .o j :: rs => (posOf rs j).isNone && oneEach rs
  | .d _ :: rs => oneEach rs
noncomputable def allIn (Ts : List Nat) : List Rv → Bool
  | [] => true
  | .o j :: rs => Ts.contains j && allIn Ts rs
  | .d _ :: rs => allIn Ts rs
noncomputable def wb1 (s : Sl) (o : Option Sl) : Sl := match s, o with
  | .own m _, some (.own _ t) => .own m t
  | s, _ => s
noncomputable def wbGo (rs : List Rv) (os : List Sl) : Nat → Rho → Rho
  | _, [] => []
  | i, s :: ρ => (match posOf rs i with
    | some k => wb1 s os[k]?
    | none => s) :: wbGo rs os (i + 1) ρ
noncomputable def wb (ρ : Rho) (rs : List Rv) (os : List Sl) : Rho := wbGo rs os 0 ρ
theorem wbGo_get {rs : List Rv} {os : List Sl} : ∀ {ρ : Rho} {j i : Nat}, (wbGo rs os j ρ)[i]? = (ρ[i]?).map fun s => match posOf rs (j + i) with
    | some k => wb1 s os[k]?
    | none => s
  | [], j, i => by simp [wbGo]
  | s :: ρ, j, 0 => by simp [wbGo]
  | s :: ρ, j, i + 1 => by
    have := wbGo_get (rs := rs) (os := os) (ρ := ρ) (j := j + 1) (i := i)
    show (wbGo rs os (j + 1) ρ)[i]? = _
    rw [this, show j + 1 + i = j + (i + 1) by omega]
    simp
theorem wb_get {rs : List Rv} {os : List Sl} {ρ : Rho} {i : Nat} : (wb ρ rs os)[i]? = (ρ[i]?).map fun s => match posOf rs i with
    | some k => wb1 s os[k]?
    | none => s := by
  have := wbGo_get (rs := rs) (os := os) (ρ := ρ) (j := 0) (i := i)
  rw [Nat.zero_add] at this
  exact this
theorem wbGo_len {rs : List Rv} {os : List Sl} : ∀ {ρ : Rho} {j : Nat}, (wbGo rs os j ρ).length = ρ.length
  | [], _ => rfl
  | _ :: ρ, j => by simp [wbGo, wbGo_len (ρ := ρ)]
theorem posOf_get : ∀ {rs : List Rv} {i k : Nat}, posOf rs i = some k → rs[k]? = some (.o i)
  | [], _, _, h => by simp [posOf] at h
  | .o j :: rs, i, k, h => by
    simp only [posOf] at h
    split at h
    · rename_i e; cases h; subst e; rfl
    · obtain ⟨a, h1, rfl⟩ := map_some h
      simpa using posOf_get h1
  | .d _ :: rs, i, k, h => by
    simp only [posOf] at h
    obtain ⟨a, h1, rfl⟩ := map_some h
    simpa using posOf_get h1
theorem posOf_of : ∀ {rs : List Rv} {i k : Nat}, oneEach rs = true → rs[k]? = some (.o i) → posOf rs i = some k
  | [], _, _, _, h => by simp at h
  | .o j :: rs, i, 0, _, h => by
    simp at h; subst h
    simp [posOf]
  | .o j :: rs, i, k + 1, o, h => by
    simp only [oneEach, Bool.and_eq_true] at o
    have q := posOf_of (k := k) o.2 (by simpa using h)
    have hj : j ≠ i := fun e => by
      subst e
      rw [q] at o
      exact absurd o.1 (by simp)
    simp only [posOf, if_neg hj, q]
    rfl
  | .d _ :: rs, i, 0, _, h => by simp at h
  | .d _ :: rs, i, k + 1, o, h => by
    simp only [oneEach] at o
    have q := posOf_of (k := k) o (by simpa using h)
    simp only [posOf, q]
    rfl
theorem allIn_of {Ts : List Nat} : ∀ {rs : List Rv} {i k : Nat}, allIn Ts rs = true → rs[k]? = some (.o i) → i ∈ Ts
  | [], _, _, _, h => by simp at h
  | .o j :: rs, i, 0, a, h => by
    simp at h; subst h
    simp only [allIn, Bool.and_eq_true] at a
    exact List.contains_iff_mem.mp a.1
  | .o j :: rs, i, k + 1, a, h => by
    simp only [allIn, Bool.and_eq_true] at a
    exact allIn_of (k := k) a.2 (by simpa using h)
  | .d _ :: rs, i, 0, _, h => by simp at h
  | .d _ :: rs, i, k + 1, a, h => by
    simp only [allIn] at a
    exact allIn_of (k := k) a (by simpa using h)
theorem argSls_len {ρ : Rho} : ∀ {rs : List Rv} {as : List Sl}, argSls ρ rs = some as → as.length = rs.length
  | [], _, e => by simp only [argSls] at e; cases e; rfl
  | r :: rs, _, e => by
    simp only [argSls] at e
    split at e
    · rename_i a as h1 h2
      cases e
      simp [argSls_len h2]
    · cases e
theorem argSls_get {ρ : Rho} : ∀ {rs : List Rv} {as : List Sl} {k : Nat} {r : Rv}, argSls ρ rs = some as → rs[k]? = some r → ∃ a, as[k]? = some a ∧ argSl ρ r = some a
  | [], _, _, _, _, h => by simp at h
  | r0 :: rs, _, k, r, e, h => by
    simp only [argSls] at e
    split at e
    · rename_i a as h1 h2
      cases e
      cases k with
      | zero => simp at h; subst h; exact ⟨a, rfl, h1⟩
      | succ k =>
        obtain ⟨b, h3, h4⟩ := argSls_get (k := k) h2 (by simpa using h)
        exact ⟨b, by simpa using h3, h4⟩
    · cases e
theorem rvs_get {K : Fg} {F : Hp} {σ : Sg} {ρ : Rho} : ∀ {vs : List V} {rs : List Rv} {k : Nat} {r : Rv}, RvsOk K F σ ρ vs rs → rs[k]? = some r → ∃ v, vs[k]? = some v ∧ RvOk K F σ ρ v r
  | _, _, _, _, .nil, h => by simp at h
  | _, _, 0, _, .cons a _, h => by simp at h; subst h; exact ⟨_, rfl, a⟩
  | _, _, k + 1, _, .cons _ t, h => by
    obtain ⟨v, h1, h2⟩ := rvs_get (k := k) t (by simpa using h)
    exact ⟨v, by simpa using h1, h2⟩
theorem rvs_len {K : Fg} {F : Hp} {σ : Sg} {ρ : Rho} : ∀ {vs : List V} {rs : List Rv}, RvsOk K F σ ρ vs rs → vs.length = rs.length
  | _, _, .nil => rfl
  | _, _, .cons _ t => by simp [rvs_len t]
noncomputable def fpArgs (rs : List Rv) (fp : FP) : FP := fun k => match rs[k]? with
  | some (.o i) => fp i
  | _ => []
theorem sg_map {vs : List V} {k : Nat} {v : V} (h : vs[k]? = some v) : sg (vs.map some) k = some v := by
  unfold sg
  rw [List.getElem?_map, h]
  rfl
section
variable {K : Fg} {F H : Hp} {σ : Sg} {ρ : Rho} {fp : FP} {vs : List V} {rs : List Rv} {args : List Sl}
theorem mem_fpArgs {k : Nat} {b : Addr} (h : b ∈ fpArgs rs fp k) : ∃ i, rs[k]? = some (.o i) ∧ b ∈ fp i := by
  unfold fpArgs at h
  split at h
  · rename_i i hi; exact ⟨i, hi, h⟩
  · cases h
theorem args_env (E : EnvOk K F H σ ρ fp) (r : RvsOk K F σ ρ vs rs) (ha : argSls ρ rs = some args) (ho : oneEach rs = true) : EnvOk K F H (vs.map some) args (fpArgs rs fp) := by
  have hl := argSls_len ha
  have hv := rvs_len r
  refine ⟨E.sub, by rw [List.length_map]; omega, fun k s hs => ?_, fun k hk => ?_, fun k => ?_, fun k l b h1 h2 => ?_, E.tb, fun j i p t h1 h2 => ?_⟩
  rotate_left 4
  · exfalso
    have hj : j < rs.length := by have := (List.getElem?_eq_some_iff.mp h1).1; omega
    obtain ⟨a, g1, g2⟩ := argSls_get ha (List.getElem?_eq_getElem hj)
    rw [h1] at g1; cases g1
    cases hr : rs[j] with
    | d x => rw [hr] at g2; simp only [argSl] at g2; cases g2
    | o i => rw [hr] at g2; simp only [argSl] at g2; split at g2 <;> cases g2
  · have hk : k < rs.length := by have := (List.getElem?_eq_some_iff.mp hs).1; omega
    obtain ⟨a, h1, h2⟩ := argSls_get ha (List.getElem?_eq_getElem hk)
    rw [h1] at hs; cases hs
    obtain ⟨v, h3, h4⟩ := rvs_get r (List.getElem?_eq_getElem hk)
    rw [sg_map h3]
    unfold fpArgs
    rw [List.getElem?_eq_getElem hk]
    cases hr : rs[k] with
    | d x =>
      rw [hr] at h2 h4
      simp only [argSl] at h2
      cases h2
      exact ⟨v, rfl, h4⟩
    | o i =>
      rw [hr] at h2 h4
      obtain ⟨hu, m, t, e⟩ := h4
      simp only [argSl, e] at h2
      cases h2
      obtain ⟨u, e1, e2⟩ := E.sl i _ e
      rw [hu] at e1; cases e1
      exact ⟨v, rfl, e2⟩
  · unfold fpArgs
    split
    · rename_i i hi
      exfalso
      obtain ⟨a, h1, h2⟩ := argSls_get ha hi
      simp only [argSl] at h2
      split at h2
      · rename_i m t e
        cases h2
        exact hk _ t h1
      · cases h2
    · rfl
  · unfold fpArgs
    split
    · exact E.nd _
    · exact List.nodup_nil
  · obtain ⟨i, hi, hb⟩ := mem_fpArgs h1
    obtain ⟨j, hj, hb'⟩ := mem_fpArgs h2
    have e := E.ap i j b hb hb'
    subst e
    have a := posOf_of ho hi
    have c := posOf_of ho hj
    rw [a] at c
    exact Option.some.inj c
noncomputable def fpBack (rs : List Rv) (fp fpA : FP) : FP := fun i => match posOf rs i with
  | some k => fpA k
  | none => fp i
theorem call_step {F' H' : Hp} {fpA : FP} {os : List Sl} {Ts : List Nat} (E : EnvOk K F H σ ρ fp) (r : RvsOk K F σ ρ vs rs) (ha : argSls ρ rs = some args) (ho : oneEach rs = true) (hT : allIn Ts rs = true)
    (s : Step K F H (vs.map some) args (fpArgs rs fp) F' H' (vs.map some) os fpA) (hos : ∀ (k : Nat) m t, args[k]? = some (Sl.own m t) → ∃ m' t', os[k]? = some (Sl.own m' t')) :
    EStep K Ts F H σ ρ fp F' H' (wb ρ rs os) (fpBack rs fp fpA) := by
  have oA : ∀ {b}, Owns (fpArgs rs fp) b → Owns fp b := fun {b} ⟨k, h⟩ => let ⟨i, _, hb⟩ := mem_fpArgs h; ⟨i, hb⟩
  -- at a slot that is handed in
  have inn : ∀ (i k : Nat), posOf rs i = some k → ∃ m t v m' t', ρ[i]? = some (Sl.own m t) ∧ sg σ i = some v ∧ vs[k]? = some v ∧ args[k]? = some (Sl.own m.arg t) ∧ os[k]? = some (Sl.own m' t') ∧ (wb ρ rs os)[i]? = some (Sl.own m t') ∧ TrOk K F' H' v t' (fpA k) := by
    intro i k hp
    have hk := posOf_get hp
    obtain ⟨v, h1, hu, m, t, e⟩ := rvs_get r hk
    obtain ⟨a, h2, h3⟩ := argSls_get ha hk
    simp only [argSl, e] at h3
    cases h3
    obtain ⟨m', t', h4⟩ := hos k _ t h2
    obtain ⟨u, e1, e2⟩ := s.env.sl k _ h4
    rw [sg_map h1] at e1; cases e1
    refine ⟨m, t, v, m', t', e, hu, h1, h2, h4, ?_, e2⟩
    rw [wb_get, e]
    simp only [Option.map_some, hp, h4, wb1]
  have outT : ∀ (i : Nat), posOf rs i = none → ∀ b ∈ fp i, H' b = H b ∧ F' b = none := by
    intro i hp b hb
    have hn : ¬ Owns (fpArgs rs fp) b := fun ⟨k, h⟩ => by
      obtain ⟨j, hj, hb'⟩ := mem_fpArgs h
      have e := E.ap i j b hb hb'
      subst e
      rw [posOf_of ho hj] at hp
      cases hp
    obtain ⟨h1, h2⟩ := E.there ⟨i, hb⟩
    constructor
    · cases q : H b with
      | none => exact absurd q h1
      | some o => exact s.frame b o q hn fun ps z => E.ntb ⟨i, hb⟩ ps (z ▸ q)
    · cases q : F' b with
      | none => rfl
      | some o =>
        rcases s.nf b h2 (by rw [q]; exact fun z => nomatch z) with z | z | z
        · exact absurd z h1
        · exact absurd z hn
        · exact absurd z (E.nkt ⟨i, hb⟩)
  have get0 : ∀ (i : Nat), posOf rs i = none → (wb ρ rs os)[i]? = ρ[i]? := by
    intro i hp
    rw [wb_get]
    cases ρ[i]? with
    | none => rfl
    | some x => simp [hp]
  refine ⟨⟨⟨s.env.sub, ?_, fun i u hu => ?_, fun i hi => ?_, fun i => ?_, fun i j b h1 h2 => ?_, s.env.tb, E.al' (fun j i p h => ?_) fun i p t h => ?_⟩, s.fr, fun b h h' => (s.nf b h h').imp_right (Or.imp_left oA), s.dom, fun b o h n => s.frame b o h (fun z => n (oA z)), fun b hb => ?_, fun i m t h hm => ?_, fun i t h => ?_⟩, fun i m t h => ?_, fun i hi => ?_⟩
  rotate_left 5
  · cases hp : posOf rs j with
    | some k =>
      obtain ⟨m, t, v, m', t', e1, e2, e3, e4, e5, e6, e7⟩ := inn j k hp
      rw [e6] at h; cases h
    | none => rw [get0 j hp] at h; exact ⟨h, rfl⟩
  · cases hp : posOf rs i with
    | some k =>
      obtain ⟨m, t0, v, m', t', e1, e2, e3, e4, e5, e6, e7⟩ := inn i k hp
      rw [e6] at h; cases h
      obtain ⟨_, l1, l2, l3⟩ := s.lock k t0 e4
      rw [l1] at e5; cases e5
      have ek : fpArgs rs fp k = fp i := by unfold fpArgs; rw [posOf_get hp]
      exact ⟨e1, rfl, fun b hb => l3 b (by rw [ek]; exact hb)⟩
    | none => rw [get0 i hp] at h; exact ⟨h, rfl, fun b hb => (outT i hp b hb).1⟩
  rotate_right 5
  · unfold wb; rw [wbGo_len]; exact E.len
  · cases hp : posOf rs i with
    | some k =>
      obtain ⟨m, t, v, m', t', e1, e2, e3, e4, e5, e6, e7⟩ := inn i k hp
      rw [e6] at hu; cases hu
      unfold fpBack
      rw [hp, e2]
      exact ⟨v, rfl, e7⟩
    | none =>
      rw [get0 i hp] at hu
      unfold fpBack
      rw [hp]
      have q := E.sl i u hu
      cases u with
      | no => trivial
      | al _ _ => trivial
      | val d => obtain ⟨v, e1, e2⟩ := q; exact ⟨v, e1, dq_mono s.fr _ _ e2⟩
      | own m t => obtain ⟨v, e1, e2⟩ := q; exact ⟨v, e1, e2.move s.fr (outT i hp)⟩
  · unfold fpBack
    cases hp : posOf rs i with
    | some k =>
      obtain ⟨m, t, v, m', t', e1, e2, e3, e4, e5, e6, e7⟩ := inn i k hp
      exact absurd e6 (hi m t')
    | none =>
      refine E.nil i fun m t z => hi m t ?_
      rw [get0 i hp]; exact z
  · unfold fpBack
    split
    · exact s.env.nd _
    · exact E.nd i
  · have cross : ∀ (i j k : Nat), posOf rs i = some k → posOf rs j = none → b ∈ fpA k → b ∈ fp j → False := by
      intro i j k hi hj h1 h2
      rcases s.own b ⟨k, h1⟩ with ⟨l, z⟩ | z
      · obtain ⟨i', hi', hb'⟩ := mem_fpArgs z
        have e := E.ap j i' b h2 hb'
        subst e
        rw [posOf_of ho hi'] at hj
        cases hj
      · exact (E.there ⟨j, h2⟩).1 z
    unfold fpBack at h1 h2
    cases hi : posOf rs i with
    | some k =>
      rw [hi] at h1
      cases hj : posOf rs j with
      | some l =>
        rw [hj] at h2
        have e := s.env.ap k l b h1 h2
        subst e
        have a := posOf_get hi
        have c := posOf_get hj
        rw [a] at c
        cases c
        rfl
      | none => rw [hj] at h2; exact (cross i j k hi hj h1 h2).elim
    | none =>
      rw [hi] at h1
      cases hj : posOf rs j with
      | some l => rw [hj] at h2; exact (cross j i l hj hi h2 h1).elim
      | none => rw [hj] at h2; exact E.ap i j b h1 h2
  · obtain ⟨i, h⟩ := hb
    unfold fpBack at h
    cases hi : posOf rs i with
    | some k => rw [hi] at h; exact (s.own b ⟨k, h⟩).imp_left oA
    | none => rw [hi] at h; exact .inl ⟨i, h⟩
  · cases hp : posOf rs i with
    | some k =>
      obtain ⟨m0, t0, v, m', t', e1, e2, e3, e4, e5, e6, e7⟩ := inn i k hp
      rw [h] at e1; cases e1
      exact ⟨rfl, _, t', e6, hm⟩
    | none => exact ⟨rfl, m, t, by rw [get0 i hp]; exact h, hm⟩
  · cases hp : posOf rs i with
    | some k =>
      obtain ⟨m, t0, v, m', t', e1, e2, e3, e4, e5, e6, e7⟩ := inn i k hp
      rw [h] at e1; cases e1
      obtain ⟨_, l1, l2, l3⟩ := s.lock k t e4
      rw [l1] at e5; cases e5
      have ek : fpArgs rs fp k = fp i := by unfold fpArgs; rw [posOf_get hp]
      refine ⟨rfl, e6, ?_, fun b hb => l3 b (by rw [ek]; exact hb)⟩
      unfold fpBack
      rw [hp]
      exact l2.trans ek
    | none =>
      refine ⟨rfl, by rw [get0 i hp]; exact h, ?_, fun b hb => (outT i hp b hb).1⟩
      unfold fpBack
      rw [hp]
  · cases hp : posOf rs i with
    | some k =>
      obtain ⟨m0, t0, v, m', t', e1, e2, e3, e4, e5, e6, e7⟩ := inn i k hp
      rw [h] at e1; cases e1
      exact ⟨t', e6⟩
    | none => exact ⟨t, by rw [get0 i hp]; exact h⟩
  · cases hp : posOf rs i with
    | some k => exact absurd (allIn_of hT (posOf_get hp)) hi
    | none =>
      refine ⟨get0 i hp, ?_, fun b hb => (outT i hp b hb).1⟩
      unfold fpBack
      rw [hp]
theorem call_new {F' H' : Hp} {fpA : FP} {v : V} {t : Tr} {A : List Addr} (E : EnvOk K F H σ ρ fp) (ho : oneEach rs = true) (n : NewOk K H (fpArgs rs fp) F' H' fpA v t A) : NewOk K H fp F' H' (fpBack rs fp fpA) v t A := by
  refine ⟨n.ok, n.nd, fun b hb => (n.new b hb).imp_right fun ⟨k, h⟩ => let ⟨i, _, z⟩ := mem_fpArgs h; ⟨i, z⟩, fun b hb z => ?_⟩
  obtain ⟨i, h⟩ := z
  unfold fpBack at h
  cases hp : posOf rs i with
  | some k => rw [hp] at h; exact n.out b hb ⟨k, h⟩
  | none =>
    rw [hp] at h
    rcases n.new b hb with z | ⟨k, z⟩
    · exact (E.there ⟨i, h⟩).1 z
    · obtain ⟨j, hj, hb'⟩ := mem_fpArgs z
      have e := E.ap i j b h hb'
      subst e
      rw [posOf_of ho hj] at hp
      cases hp
end
noncomputable def backOk : List Sl → List Sl → Bool
  | [], _ => true
  | .own _ _ :: as, .own _ _ :: os => backOk as os
  | .own _ _ :: _, _ => false
  | _ :: as, _ :: os => backOk as os
  | _ :: _, [] => false
theorem backOk_get : ∀ {as os : List Sl} {k : Nat} {m : Md} {t : Tr}, backOk as os = true → as[k]? = some (.own m t) → ∃ m' t', os[k]? = some (.own m' t')
  | [], _, _, _, _, _, h => by simp at h
  | .own m0 t0 :: as, .own m1 t1 :: os, 0, _, _, _, _ => ⟨m1, t1, rfl⟩
  | .own m0 t0 :: as, .own m1 t1 :: os, k + 1, _, _, b, h => by
    simp only [backOk] at b
    obtain ⟨m', t', e⟩ := backOk_get (k := k) b (by simpa using h)
    exact ⟨m', t', by simpa using e⟩
  | .own _ _ :: _, .no :: _, _, _, _, b, _ => by simp [backOk] at b
  | .own _ _ :: _, .val _ :: _, _, _, _, b, _ => by simp [backOk] at b
  | .own _ _ :: _, .al _ _ :: _, _, _, _, b, _ => by simp [backOk] at b
  | .own _ _ :: _, [], _, _, _, b, _ => by simp [backOk] at b
  | .al _ _ :: as, o :: os, 0, _, _, _, h => by simp at h
  | .al _ _ :: as, o :: os, k + 1, _, _, b, h => by
    have b' : backOk as os = true := by cases o <;> simpa [backOk] using b
    obtain ⟨m', t', e⟩ := backOk_get (k := k) b' (by simpa using h)
    exact ⟨m', t', by simpa using e⟩
  | .al _ _ :: _, [], _, _, _, b, _ => by simp [backOk] at b
  | .no :: as, o :: os, 0, _, _, _, h => by simp at h
  | .val _ :: as, o :: os, 0, _, _, _, h => by simp at h
  | .no :: as, o :: os, k + 1, _, _, b, h => by
    have b' : backOk as os = true := by cases o <;> simpa [backOk] using b
    obtain ⟨m', t', e⟩ := backOk_get (k := k) b' (by simpa using h)
    exact ⟨m', t', by simpa using e⟩
  | .val _ :: as, o :: os, k + 1, _, _, b, h => by
    have b' : backOk as os = true := by cases o <;> simpa [backOk] using b
    obtain ⟨m', t', e⟩ := backOk_get (k := k) b' (by simpa using h)
    exact ⟨m', t', by simpa using e⟩
  | .no :: _, [], _, _, _, b, _ => by simp [backOk] at b
  | .val _ :: _, [], _, _, _, b, _ => by simp [backOk] at b
noncomputable def callN (Ts : List Nat) (m : Nat) (f : Fn) (rs : List Rv) : M Tr := fun ρ => match argSls ρ rs with
  | some args => if decide (rs.length = m) && (oneEach rs && allIn Ts rs) then (match f args with
    | some (.ret t, outs) => if backOk args (mrg args outs) then some (.ok t (wb ρ rs (mrg args outs))) else none
    | _ => none) else none
  | none => none
noncomputable def nCall (Ts : List Nat) (m : Nat) (f : Fn) (fs : M (List Rv)) : M Tr := bnd fs (callN Ts m f)
section
variable {X : Cx} {T : List Nat} {W : WV} {k m : Nat} {f : Addr} {fd : FuncData} {ps : List Str} {F : Fn} {x : Str} {p pos : Pos} {e : Expr} {es : List Expr} {fs : M (List Rv)} {Ts : List Nat}
theorem vn_call (G : FnOk X.prog X.w X.K X.mg X.base CX0 k f fd ps (spV X.K Wx0 m F)) (hr : Room k X.A) (hg : Gl X x) (hm : X.mg x = some (.ref f)) (hk : PySem.W.keepIn X.K (.ref f) = true) (hb : Binds X.K fd ps [])
    (ha : VA X T W (e :: es) fs) (hdb : (x == ("__debug__" : Str)) = false := by decide) (he : starEach (e :: es) X.env = (false, eval e X.env) :: starEach es X.env := by rfl) (hpl : (backTo pos (starEach es X.env)).any (·.1) = false := by rfl) :
    VN X (T ++ Ts) W (.Call (.Name x p) (e :: es) [] pos) (nCall Ts m F fs) :=
  pe_imp (pe_call G hr hg hm hk hb .nil pass0 ha hdb he hpl) fun σ H Q ⟨F0, ρ, fp, o, E, q, P⟩ => by
    refine tv_bnd (T := T) E q P (fun i hi => List.mem_append_left _ hi) fun rs ρ1 vs H1 F1 fp1 s1 r1 e1 P1 => ?_
    rw [List.append_nil]
    unfold callN at e1
    split at e1
    · rename_i args hargs
      split at e1
      · rename_i ho
        rw [Bool.and_eq_true, Bool.and_eq_true] at ho
        split at e1
        · rename_i t outs hf
          split at e1
          · rename_i hbk
            cases ok_inj e1
            refine ⟨?_, F1, args, fpArgs rs fp1, _, outs, args_env s1.env r1 hargs ho.2.1, hf, fun v A H' F' fp' st n => ?_⟩
            · rw [rvs_len r1]; exact of_decide_eq_true ho.1
            · have s2 := call_step (Ts := Ts) s1.env r1 hargs ho.2.1 ho.2.2 st fun k m t h => backOk_get hbk h
              exact P1 v H' F' _ (s2.sub fun i hi => List.mem_append_right _ hi) ⟨A, call_new s1.env ho.2.1 n⟩
          · cases e1
        · cases e1
      · cases e1
    · cases e1
end
end VL

end

section
set_option Elab.async false
set_option linter.all false
set_option maxRecDepth 100000
namespace VL
open PySem PySem.Spec PyProof.Rows L2

section
variable {X : Cx} {T : List Nat} {W : WV} {pos : Pos}
noncomputable def iEnumD (f : M (List Rv)) : M (List PyData) := bnd f fun rs => fun ρ => match rs with
  | [.d (.list xs)] => some (.ok (enumD xs) ρ)
  | [.d (.tuple xs)] => some (.ok (enumD xs) ρ)
  | _ => none
end

noncomputable def zipD (xs ys : List PyData) : List PyData := (xs.zip ys).map fun p => .tuple [p.1, p.2]
section
variable {X : Cx} {T : List Nat} {W : WV} {pos : Pos}
noncomputable def iZipD (f : M (List Rv)) : M (List PyData) := bnd f fun rs => fun ρ => match rs with
  | [.d (.list xs), .d (.list ys)] => some (.ok (zipD xs ys) ρ)
  | [.d (.tuple xs), .d (.tuple ys)] => some (.ok (zipD xs ys) ρ)
  | _ => none
end
end VL

end

section
set_option Elab.async false
set_option linter.all false
set_option maxRecDepth 100000
namespace VL
open PySem PySem.Spec PyProof.Rows L2

noncomputable def wipeR (ρ : Rho) : List Nat → Rho
  | [] => ρ
  | i :: vs => (wipeR ρ vs).set i .no
noncomputable def noOwn (ρ : Rho) : List Nat → Bool
  | [] => true
  | i :: vs => (match ρ[i]? with
    | some (.own _ _) => false
    | some (.al _ _) => false
    | _ => true) && noOwn ρ vs
noncomputable def restR (ρ0 ρ : Rho) : List Nat → Rho
  | [] => ρ
  | i :: vs => match ρ0[i]? with
    | some s => (restR ρ0 ρ vs).set i s
    | none => restR ρ0 ρ vs
noncomputable def compGo (vs : List Nat) (G : MG) (tt : M Bool) (te : M Rv) : List PyData → List PyData → Rho → Option (List PyData × Rho)
  | [], acc, ρ => some (acc, ρ)
  | x :: xs, acc, ρ => match G x ρ with
    | none => none
    | some ρ1 => match tt ρ1 with
      | some (.ok true ρ2) => (match te ρ2 with
        | some (.ok (.d d) ρ3) => if small (acc.length + 1) && noOwn ρ3 vs then compGo vs G tt te xs (acc ++ [d]) (wipeR ρ3 vs) else none
        | _ => none)
      | some (.ok false ρ2) => if noOwn ρ2 vs then compGo vs G tt te xs acc (wipeR ρ2 vs) else none
      | _ => none
noncomputable def comp1 (vs : List Nat) (G : MG) (tt : M Bool) (te : M Rv) (xs : List PyData) : M Tr := fun ρ =>
  if noOwn ρ vs then (match compGo vs G tt te xs [] (wipeR ρ vs) with
    | some (ds, ρ') => if noOwn ρ' vs then some (.ok (.lst (ds.map .dat)) (restR ρ ρ' vs)) else none
    | none => none) else none
noncomputable def nComp (fi : M (List PyData)) (vs : List Nat) (G : MG) (tt : M Bool) (te : M Rv) : M Tr := bnd fi (comp1 vs G tt te)
noncomputable def tYesM : M Bool := ret true

theorem wipeR_len {ρ : Rho} : ∀ {vs : List Nat}, (wipeR ρ vs).length = ρ.length
  | [] => rfl
  | i :: vs => by unfold wipeR; rw [List.length_set, wipeR_len (vs := vs)]
theorem wipeR_out {ρ : Rho} {j : Nat} : ∀ {vs : List Nat}, j ∉ vs → (wipeR ρ vs)[j]? = ρ[j]?
  | [], _ => rfl
  | i :: vs, h => by
    unfold wipeR
    rw [List.getElem?_set_ne fun z => h (by simp [z])]
    exact wipeR_out fun z => h (List.mem_cons_of_mem _ z)
theorem wipeR_in {ρ : Rho} {j : Nat} {s : Sl} : ∀ {vs : List Nat}, j ∈ vs → (wipeR ρ vs)[j]? = some s → s = .no
  | i :: vs, h, e => by
    unfold wipeR at e
    by_cases hij : i = j
    · subst hij
      by_cases hl : i < (wipeR ρ vs).length
      · rw [List.getElem?_set_self hl] at e; exact (Option.some.inj e).symm
      · rw [List.getElem?_eq_none (by simpa using hl)] at e; cases e
    · rw [List.getElem?_set_ne hij] at e
      rcases List.mem_cons.mp h with z | z
      · exact absurd z.symm hij
      · exact wipeR_in z e
theorem noOwn_get {ρ : Rho} {j : Nat} : ∀ {vs : List Nat}, noOwn ρ vs = true → j ∈ vs → ∀ m t, ρ[j]? ≠ some (.own m t)
  | i :: vs, h, hj, m, t, e => by
    unfold noOwn at h
    rw [Bool.and_eq_true] at h
    rcases List.mem_cons.mp hj with z | z
    · subst z
      rw [e] at h
      exact absurd h.1 Bool.false_ne_true
    · exact noOwn_get h.2 z m t e
theorem noOwn_al {ρ : Rho} {j : Nat} : ∀ {vs : List Nat}, noOwn ρ vs = true → j ∈ vs → ∀ i p, ρ[j]? ≠ some (.al i p)
  | i :: vs, h, hj, m, t, e => by
    unfold noOwn at h
    rw [Bool.and_eq_true] at h
    rcases List.mem_cons.mp hj with z | z
    · subst z
      rw [e] at h
      exact absurd h.1 Bool.false_ne_true
    · exact noOwn_al h.2 z m t e
theorem restR_len {ρ0 ρ : Rho} : ∀ {vs : List Nat}, (restR ρ0 ρ vs).length = ρ.length
  | [] => rfl
  | i :: vs => by
    unfold restR
    split
    · rw [List.length_set, restR_len (vs := vs)]
    · exact restR_len (vs := vs)
theorem restR_out {ρ0 ρ : Rho} {j : Nat} : ∀ {vs : List Nat}, j ∉ vs → (restR ρ0 ρ vs)[j]? = ρ[j]?
  | [], _ => rfl
  | i :: vs, h => by
    unfold restR
    split
    · rw [List.getElem?_set_ne fun z => h (by simp [z])]
      exact restR_out fun z => h (List.mem_cons_of_mem _ z)
    · exact restR_out fun z => h (List.mem_cons_of_mem _ z)
theorem restR_in {ρ0 ρ : Rho} {j : Nat} (hl : ρ0.length = ρ.length) : ∀ {vs : List Nat}, j ∈ vs → (restR ρ0 ρ vs)[j]? = ρ0[j]?
  | i :: vs, h => by
    unfold restR
    by_cases hij : i = j
    · subst hij
      cases q : ρ0[i]? with
      | some s =>
        have hi := (List.getElem?_eq_some_iff.mp q).1
        simp only
        rw [List.getElem?_set_self (by rw [restR_len]; omega)]
      | none =>
        simp only
        rw [List.getElem?_eq_none_iff] at q
        rw [List.getElem?_eq_none (by rw [restR_len]; omega)]
    · have hj : j ∈ vs := by
        rcases List.mem_cons.mp h with z | z
        · exact absurd z.symm hij
        · exact z
      split
      · rw [List.getElem?_set_ne hij]
        exact restR_in hl hj
      · exact restR_in hl hj
theorem wipe_out {σ : Sg} {j : Nat} : ∀ {vs : List Nat}, j ∉ vs → sg (wipe σ vs) j = sg σ j
  | [], _ => rfl
  | i :: vs, h => by
    unfold wipe
    rw [sg_set_ne fun z => h (by simp [z])]
    exact wipe_out fun z => h (List.mem_cons_of_mem _ z)
theorem get_of_sg {σ σ' : Sg} (hl : σ'.length = σ.length) {j : Nat} (h : sg σ' j = sg σ j) : σ'[j]? = σ[j]? := by
  unfold sg at h
  by_cases hj : j < σ.length
  · rw [List.getElem?_eq_getElem hj, List.getElem?_eq_getElem (by omega)] at h ⊢
    simpa using h
  · rw [List.getElem?_eq_none (by omega), List.getElem?_eq_none (by omega)]
theorem wipe_get {σ : Sg} {j : Nat} : ∀ {vs : List Nat}, (wipe σ vs)[j]? = if j ∈ vs ∧ j < σ.length then some none else σ[j]?
  | [] => by simp [wipe]
  | i :: vs => by
    unfold wipe
    by_cases hij : i = j
    · subst hij
      by_cases hl : i < σ.length
      · rw [List.getElem?_set_self (by rw [wipe_length]; exact hl), if_pos ⟨by simp, hl⟩]
      · rw [if_neg fun z => hl z.2, List.getElem?_eq_none (by rw [List.length_set, wipe_length]; omega), List.getElem?_eq_none (by omega)]
    · rw [List.getElem?_set_ne hij, wipe_get (vs := vs)]
      have e : (j ∈ i :: vs ∧ j < σ.length) ↔ (j ∈ vs ∧ j < σ.length) := by simp [Ne.symm hij]
      by_cases h : j ∈ vs ∧ j < σ.length
      · rw [if_pos h, if_pos (e.mpr h)]
      · rw [if_neg h, if_neg fun z => h (e.mp z)]
theorem wipe_same {σ σ' : Sg} {vs : List Nat} (hl : σ'.length = σ.length) (h : ∀ j, j ∉ vs → sg σ' j = sg σ j) : wipe σ' vs = wipe σ vs := by
  apply List.ext_getElem?
  intro j
  rw [wipe_get, wipe_get, hl]
  by_cases hj : j ∈ vs ∧ j < σ.length
  · rw [if_pos hj, if_pos hj]
  · rw [if_neg hj, if_neg hj]
    by_cases hv : j ∈ vs
    · have hlt : ¬ j < σ.length := fun z => hj ⟨hv, z⟩
      rw [List.getElem?_eq_none (by omega), List.getElem?_eq_none (by omega)]
    · exact get_of_sg hl (h j hv)
noncomputable def hid (H : Hp) (D : Addr) : Hp := fun b => if b = D then none else H b
theorem hid_ne {H : Hp} {D b : Addr} (h : b ≠ D) : hid H D b = H b := by unfold hid; rw [if_neg h]
theorem hid_at {H : Hp} {D : Addr} : hid H D D = none := by unfold hid; rw [if_pos rfl]
theorem hid_some {H : Hp} {D b : Addr} {o : HO} (h : hid H D b = some o) : b ≠ D ∧ H b = some o := by
  by_cases e : b = D
  · subst e; rw [hid_at] at h; cases h
  · exact ⟨e, by rw [hid_ne e] at h; exact h⟩
theorem hid_upd {H : Hp} {D : Addr} {o : HO} : hid (upd H D o) D = hid H D := by
  funext b
  by_cases e : b = D
  · subst e; rw [hid_at, hid_at]
  · rw [hid_ne e, hid_ne e, upd_ne e]
theorem hid_free {H : Hp} {D : Addr} (h : H D = none) : hid H D = H := by
  funext b
  by_cases e : b = D
  · subst e; rw [hid_at, h]
  · rw [hid_ne e]
section
variable {K : Fg} {F H F' H' : Hp} {σ σ' : Sg} {ρ ρ' : Rho} {fp fp' : FP} {D : Addr} {vs : List Nat}
theorem env_hid (E : EnvOk K F H σ ρ fp) (hF : F D = none) (hO : ¬ Owns fp D) (hD : ∀ ps, H D ≠ some (.tbl ps)) : EnvOk K F (hid H D) σ ρ fp := by
  refine ⟨fun b o e => ?_, E.len, fun i s h => ?_, E.nil, E.nd, E.ap, E.tb.mono (Same.refl _) fun P ps h1 h2 => ⟨h2, hid_ne fun z => by subst z; exact hD ps h1⟩, E.al' (fun _ _ _ h => ⟨h, rfl⟩) fun i _ _ h => ⟨h, rfl, fun b hb => hid_ne fun z => by subst z; exact hO ⟨i, hb⟩⟩⟩
  · rw [hid_ne fun z => by subst z; rw [hF] at e; cases e]
    exact E.sub b o e
  · have q := E.sl i s h
    cases s with
    | no => trivial
    | al _ _ => trivial
    | val d => exact q
    | own m t =>
      obtain ⟨u, e1, e2⟩ := q
      exact ⟨u, e1, e2.move (Same.refl _) fun b hb => ⟨hid_ne fun z => by subst z; exact hO ⟨i, hb⟩, (e2.mem b hb).2⟩⟩
theorem env_show (E : EnvOk K F (hid H D) σ ρ fp) : EnvOk K F H σ ρ fp := by
  refine ⟨fun b o e => (hid_some (E.sub b o e)).2, E.len, fun i s h => ?_, E.nil, E.nd, E.ap, E.tb.mono (Same.refl _) fun P ps h1 h2 => ⟨h2, (hid_some h1).2.trans h1.symm⟩, E.al' (fun _ _ _ h => ⟨h, rfl⟩) fun i _ _ h => ⟨h, rfl, fun b hb => by
    cases z : hid H D b with
    | none => exact absurd z (E.there ⟨i, hb⟩).1
    | some o => exact (hid_some z).2⟩⟩
  have q := E.sl i s h
  cases s with
  | no => trivial
  | al _ _ => trivial
  | val d => exact q
  | own m t =>
    obtain ⟨u, e1, e2⟩ := q
    refine ⟨u, e1, e2.move (Same.refl _) fun b hb => ⟨?_, (e2.mem b hb).2⟩⟩
    cases z : hid H D b with
    | none => exact absurd z (e2.mem b hb).1
    | some o => exact (hid_some z).2
theorem step_keeps (s : Step K F H σ ρ fp F' H' σ' ρ' fp') {o : HO} (hD : H D = some o) (hF : F D = none) (hO : ¬ Owns fp D) (hn : ∀ ps, o ≠ .tbl ps := by exact fun _ z => nomatch z) (hk : ∀ ks : List Key, o ≠ .tup (ks.map kV) := by exact fun _ z => nomatch z) : H' D = some o ∧ F' D = none ∧ ¬ Owns fp' D := by
  refine ⟨s.frame D o hD hO hn, ?_, fun z => ?_⟩
  · cases q : F' D with
    | none => rfl
    | some u =>
      rcases s.nf D hF (by rw [q]; exact fun z => nomatch z) with z | z | ⟨ks, z⟩ | ⟨ps, z⟩
      · rw [hD] at z; cases z
      · exact absurd z hO
      · rw [hD] at z; exact absurd (Option.some.inj z) (hk ks)
      · rw [hD] at z; exact absurd (Option.some.inj z) (hn ps)
  · rcases s.own D z with z | z
    · exact hO z
    · rw [hD] at z; cases z
theorem step_hid (s : Step K F H σ ρ fp F' H' σ' ρ' fp') (hF : F' D = none) (hO : ¬ Owns fp' D) (hn : ∀ ps, H' D ≠ some (.tbl ps)) : Step K F (hid H D) σ ρ fp F' (hid H' D) σ' ρ' fp' := by
  refine ⟨env_hid s.env hF hO hn, s.fr, fun b h h' => ?_, fun b h => ?_, fun b o h n nt => ?_, fun b h => (s.own b h).imp_right fun z => ?_, s.pin, fun i t h => ?_⟩
  · by_cases e : b = D
    · subst e; exact .inl hid_at
    · unfold KT
      rw [hid_ne e]; exact s.nf b h h'
  · by_cases e : b = D
    · subst e; exact hid_at
    · rw [hid_ne e] at h ⊢; exact s.dom b h
  · obtain ⟨e, h⟩ := hid_some h
    rw [hid_ne e]
    exact s.frame b o h n nt
  · by_cases e : b = D
    · subst e; exact hid_at
    · rw [hid_ne e]; exact z
  · obtain ⟨a, b, c, d⟩ := s.lock i t h
    refine ⟨a, b, c, fun x hx => ?_⟩
    by_cases e : x = D
    · subst e; rw [hid_at, hid_at]
    · rw [hid_ne e, hid_ne e]; exact d x hx
theorem wipe_step {σin : Sg} (E : EnvOk K F H σ ρ fp) (hn : noOwn ρ vs = true) (hl : σin.length = σ.length) (hs : ∀ i, i ∉ vs → sg σin i = sg σ i) : Step K F H σ ρ fp F H σin (wipeR ρ vs) fp := by
  have own : ∀ {i m t}, (wipeR ρ vs)[i]? = some (Sl.own m t) → i ∉ vs ∧ ρ[i]? = some (Sl.own m t) := fun {i m t} h => by
    by_cases hi : i ∈ vs
    · exact nomatch wipeR_in hi h
    · exact ⟨hi, by rw [wipeR_out hi] at h; exact h⟩
  have out : ∀ {i m t}, ρ[i]? = some (Sl.own m t) → i ∉ vs := fun {i m t} h hi => noOwn_get hn hi m t h
  refine ⟨⟨E.sub, by rw [wipeR_len, hl]; exact E.len, fun i s h => ?_, fun i h => ?_, E.nd, E.ap, E.tb, E.al' (fun j i p h => ?_) fun i p t h => ?_⟩, Same.refl _, fun _ h h' => absurd h h', fun _ h => h, fun _ _ h _ _ => h, fun _ h => .inl h, fun i m t h hm => ?_, fun i t h => ?_⟩
  rotate_left 2
  · by_cases hi : j ∈ vs
    · exact nomatch wipeR_in hi h
    · rw [wipeR_out hi] at h; exact ⟨h, hs j hi⟩
  · exact ⟨(own h).2, hs i (own h).1, fun _ _ => rfl⟩
  rotate_right 2
  · by_cases hi : i ∈ vs
    · have := wipeR_in hi h
      subst this
      trivial
    · rw [wipeR_out hi] at h
      rw [hs i hi]
      exact E.sl i s h
  · refine E.nil i fun m t z => h m t ?_
    rw [wipeR_out (out z)]
    exact z
  · exact ⟨hs i (out h), m, t, by rw [wipeR_out (out h)]; exact h, hm⟩
  · exact ⟨hs i (out h), by rw [wipeR_out (out h)]; exact h, rfl, fun _ _ => rfl⟩
end
structure Blk (K : Fg) (T vs : List Nat) (F H : Hp) (σ : Sg) (ρ : Rho) (fp : FP) (F' H' : Hp) (σ' : Sg) (ρ' : Rho) (fp' : FP) : Prop where
  st : Step K F H σ ρ fp F' H' σ' ρ' fp'
  len : σ'.length = σ.length
  rl : ρ'.length = ρ.length
  sv : ∀ i, i ∉ vs → sg σ' i = sg σ i
  ko : ∀ (i : Nat) m t, i ∉ vs → ρ[i]? = some (Sl.own m t) → ∃ t', ρ'[i]? = some (Sl.own m t')
  un : ∀ (i : Nat), i ∉ vs → i ∉ T → ρ'[i]? = ρ[i]? ∧ fp' i = fp i ∧ ∀ b ∈ fp i, H' b = H b
section
variable {K : Fg} {T vs : List Nat} {F H F1 H1 F2 H2 : Hp} {σ σ1 σ2 : Sg} {ρ ρ1 ρ2 : Rho} {fp fp1 fp2 : FP}
theorem Blk.refl (E : EnvOk K F H σ ρ fp) : Blk K T vs F H σ ρ fp F H σ ρ fp := ⟨.refl E, rfl, rfl, fun _ _ => rfl, fun _ _ t _ h => ⟨t, h⟩, fun _ _ _ => ⟨rfl, rfl, fun _ _ => rfl⟩⟩
theorem Blk.trans (a : Blk K T vs F H σ ρ fp F1 H1 σ1 ρ1 fp1) (b : Blk K T vs F1 H1 σ1 ρ1 fp1 F2 H2 σ2 ρ2 fp2) : Blk K T vs F H σ ρ fp F2 H2 σ2 ρ2 fp2 :=
  ⟨a.st.trans b.st, b.len.trans a.len, b.rl.trans a.rl, fun i hi => (b.sv i hi).trans (a.sv i hi), fun i m t hi h => let ⟨t1, h1⟩ := a.ko i m t hi h; b.ko i m t1 hi h1, fun i hi hT => by
    obtain ⟨a1, a2, a3⟩ := a.un i hi hT
    obtain ⟨b1, b2, b3⟩ := b.un i hi hT
    exact ⟨b1.trans a1, b2.trans a2, fun c hc => (b3 c (by rw [a2]; exact hc)).trans (a3 c hc)⟩⟩
theorem Blk.of_e {T1 : List Nat} (E : EnvOk K F H σ ρ fp) (a : EStep K T1 F H σ ρ fp F1 H1 ρ1 fp1) (hT : ∀ i ∈ T1, i ∈ T) : Blk K T vs F H σ ρ fp F1 H1 σ ρ1 fp1 :=
  ⟨a.st, rfl, by have h1 := a.env.len; have h2 := E.len; omega, fun _ _ => rfl, fun i m t _ h => a.ko i m t h, fun i _ hi => a.un i fun z => hi (hT i z)⟩
theorem Blk.of_g {ws : List Nat} (E : EnvOk K F H σ ρ fp) (s : Step K F H σ ρ fp F H σ1 ρ1 fp1) (o : Off ws σ ρ fp σ1 ρ1 fp1) (hw : ∀ i ∈ ws, i ∈ vs) : Blk K T vs F H σ ρ fp F H σ1 ρ1 fp1 :=
  ⟨s, o.1, by have h1 := s.env.len; have h2 := E.len; have h3 := o.1; omega, fun i hi => (o.2 i fun z => hi (hw i z)).1, fun i m t hi h => ⟨t, by rw [(o.2 i fun z => hi (hw i z)).2.1]; exact h⟩, fun i hi _ => ⟨(o.2 i fun z => hi (hw i z)).2.1, (o.2 i fun z => hi (hw i z)).2.2, fun _ _ => rfl⟩⟩
theorem Blk.of_w {σin : Sg} (E : EnvOk K F H σ ρ fp) (hn : noOwn ρ vs = true) (hl : σin.length = σ.length) (hs : ∀ i, i ∉ vs → sg σin i = sg σ i) : Blk K T vs F H σ ρ fp F H σin (wipeR ρ vs) fp :=
  ⟨wipe_step E hn hl hs, hl, wipeR_len, hs, fun i m t hi h => ⟨t, by rw [wipeR_out hi]; exact h⟩, fun i hi _ => ⟨wipeR_out hi, rfl, fun _ _ => rfl⟩⟩
theorem Blk.hid {D : Addr} {o : HO} (s : Blk K T vs F H σ ρ fp F1 H1 σ1 ρ1 fp1) (hF : F1 D = none) (hO : ¬ Owns fp1 D) (hD : H1 D = some o) (hn : ∀ ps, o ≠ .tbl ps := by exact fun _ z => nomatch z) : Blk K T vs F (hid H D) σ ρ fp F1 (VL.hid H1 D) σ1 ρ1 fp1 :=
  ⟨step_hid s.st hF hO (fun ps z => hn ps (Option.some.inj (hD.symm.trans z))), s.len, s.rl, s.sv, s.ko, fun i hi hT => by
    obtain ⟨a, b, c⟩ := s.un i hi hT
    refine ⟨a, b, fun x hx => ?_⟩
    by_cases e : x = D
    · subst e; rw [hid_at, hid_at]
    · rw [hid_ne e, hid_ne e]; exact c x hx⟩
end
noncomputable def VTs (X : Cx) (T : List Nat) (W : WV) (ifs : List Expr) (f : M Bool) : Prop := PTs X ifs (tVT X.K T W f)
section
variable {X : Cx} {T T1 T2 T3 : List Nat} {W : WV} {pos : Pos}
theorem pts_imp {e : List Expr} {t t' : TT} (h : PTs X e t) (i : ∀ σ H Q, t' σ H Q → t σ H Q) : PTs X e t' := ⟨fun pins s σ H Q I q => h.run pins s σ H Q I (i σ H Q q)⟩
theorem vts_nil : VTs X [] W [] tYesM := pts_imp pts_nil fun σ H Q ⟨F, ρ, fp, o, E, e, P⟩ => by
  cases ok_inj e
  exact P _ H F fp (.refl E) rfl
theorem vts_one {c : Expr} {fc : M Bool} (h : VT X T W c fc) : VTs X T W [c] fc := pts_one h
theorem tv_comp {K : Fg} {σ : Sg} {H : Hp} {Q : VK} {wi : TI} {fi : M (List PyData)} {gt : TG} {ws vs : List Nat} {G : MG} {tt : M Bool} {te : M Rv}
    (hi : ∀ σ H R F ρ fp o, EnvOk K F H σ ρ fp → fi ρ = some o →
      (match o with
       | Er.ok xs ρ' => ∀ J G Y H1 F1 fp1, EStep K T1 F H σ ρ fp F1 H1 ρ' fp1 → Walk J xs.length G Y → (∀ F2 H2, Same F1 F2 → Same F2 H2 → G H2) →
          (∀ i F2 H2 x H3, i < xs.length → Same F1 F2 → Same F2 H2 → Y i H2 x H3 → ∃ F3 d, xs[i]? = some d ∧ Grow F2 H2 F3 H3 ∧ Dq K F3 x d) → R J H1
       | Er.ex c ρ' => ∀ H1 F1 fp1, EStep K T1 F H σ ρ fp F1 H1 ρ' fp1 → W c σ H1) → wi σ H R)
    (hg : GOk K gt ws G) (hw : ∀ i ∈ ws, i ∈ vs) (h : tVN K (T1 ++ (T2 ++ T3)) W (nComp fi vs G tt te) σ H Q) : tLc wi gt (tVT K T2 W0 tt) (tV K T3 W0 te) vs σ H Q := by
  obtain ⟨F, ρ, fp, o, E, e, P⟩ := h
  unfold nComp bnd at e
  cases hf : fi ρ with
  | none => rw [hf] at e; cases e
  | some r =>
    rw [hf] at e
    cases r with
    | ex c ρ1 => cases e; exact hi σ H _ F ρ fp _ E hf fun H1 F1 fp1 s1 => P H1 F1 fp1 (s1.sub fun i hi => List.mem_append_left _ hi)
    | ok xs ρ1 =>
      refine hi σ H _ F ρ fp _ E hf fun J Gw Y H1 F1 fp1 s1 w hG hY D nD => ?_
      simp only at e
      unfold comp1 at e
      split at e
      · rename_i hn1
        split at e
        · rename_i ds ρe hgo
          split at e
          · rename_i hne
            cases ok_inj e
            have hFD : F1 D = none := s1.env.sub.free nD
            have hOD : ¬ Owns fp1 D := fun z => (s1.env.there z).1 nD
            -- the block's start, the list being hidden
            have b0 : Blk K (T2 ++ T3) vs F1 H1 σ ρ1 fp1 F1 (hid (upd H1 D (.lst [])) D) (wipe σ vs) (wipeR ρ1 vs) fp1 := by
              rw [hid_upd, hid_free nD]
              exact .of_w s1.env hn1 (wipe_length σ vs) fun i hi => wipe_out hi
            refine lc_it w (fun i H' => ∃ F' ρ' fp' acc ds', Blk K (T2 ++ T3) vs F1 H1 σ ρ1 fp1 F' (hid H' D) (wipe σ vs) ρ' fp' ∧ H' D = some (.lst acc) ∧ F' D = none ∧ ¬ Owns fp' D ∧ DqAll K F' acc ds' ∧ compGo vs G tt te (xs.drop i) ds' ρ' = some (ds, ρe))
              ⟨F1, wipeR ρ1 vs, fp1, [], [], b0, upd_same, hFD, hOD, .nil, by rw [List.drop_zero]; exact hgo⟩
              (fun i H' _ ⟨F', ρ', fp', acc, ds', b, _⟩ => hG F' H' b.st.fr (env_show b.st.env).sub) (fun i x H' H3 hilt ⟨F', ρ', fp', acc, ds', b, hD, hFD', hOD', hacc, hgo'⟩ y => ?_) fun H' ⟨F', ρ', fp', acc, ds', b, hD, hFD', hOD', hacc, hgo'⟩ => ?_
            · have E' := env_show b.st.env
              obtain ⟨F3, d, hd, g3, dx⟩ := hY i F' H' x H3 hilt b.st.fr E'.sub y
              have hdrop : xs.drop i = d :: xs.drop (i + 1) := by
                obtain ⟨hi', hd'⟩ := List.getElem?_eq_some_iff.mp hd
                rw [List.drop_eq_getElem_cons hi', hd']
              rw [hdrop] at hgo'
              unfold compGo at hgo'
              have s3 : EStep K [] F' H' (wipe σ vs) ρ' fp' F3 H3 ρ' fp' := g3.step E'
              obtain ⟨hD3, hF3, hO3⟩ := step_keeps s3.st hD hFD' hOD'
              have b3 : Blk K (T2 ++ T3) vs F1 H1 σ ρ1 fp1 F3 (hid H3 D) (wipe σ vs) ρ' fp' := b.trans ((Blk.of_e E' s3 (fun i hi => nomatch hi)).hid hF3 hO3 hD3)
              split at hgo'
              · cases hgo'
              · rename_i ρ4 h4
                refine hg x (wipe σ vs) H3 _ F3 ρ' fp' d ρ4 s3.env dx h4 fun σ4 fp4 s4 o4 => ?_
                have hF4 := hF3
                obtain ⟨hD4, _, hO4⟩ := step_keeps s4 hD3 hF3 hO3
                have b4 := b3.trans ((Blk.of_g (T := T2 ++ T3) s3.env s4 o4 hw).hid hF4 hO4 hD4)
                have hσ4 : wipe σ4 vs = wipe σ vs := wipe_same b4.len b4.sv
                refine ⟨hσ4, ?_⟩
                cases htt : tt ρ4 with
                | none => rw [htt] at hgo'; cases hgo'
                | some rt =>
                  rw [htt] at hgo'
                  cases rt with
                  | ex c ρ5 => cases hgo'
                  | ok k ρ5 =>
                    refine ⟨F3, ρ4, fp4, _, s4.env, htt, fun k' H5 F5 fp5 s5 r5 => ?_⟩
                    have r5 : k' = k := r5
                    subst r5
                    obtain ⟨hD5, hF5, hO5⟩ := step_keeps s5.st hD4 hF4 hO4
                    have b5 := b4.trans ((Blk.of_e (vs := vs) (T := T2 ++ T3) s4.env s5 (fun i hi => List.mem_append_left _ hi)).hid hF5 hO5 hD5)
                    cases k' with
                    | false =>
                      dsimp only
                      rw [if_neg Bool.false_ne_true]
                      simp only at hgo'
                      split at hgo'
                      · rename_i hn5
                        have bw := (Blk.of_w (T := T2 ++ T3) (σin := wipe σ vs) s5.env hn5 (by rw [wipe_length]; exact b5.len.symm) fun i hi => by rw [wipe_out hi]; exact (b5.sv i hi).symm).hid hF5 hO5 hD5
                        exact ⟨F5, wipeR ρ5 vs, fp5, acc, ds', b5.trans bw, hD5, hF5, hO5, dqAll_mono (g3.f.trans s5.st.fr) _ _ hacc, hgo'⟩
                      · cases hgo'
                    | true =>
                      dsimp only
                      rw [if_pos rfl]
                      simp only at hgo'
                      cases hte : te ρ5 with
                      | none => rw [hte] at hgo'; cases hgo'
                      | some re =>
                        rw [hte] at hgo'
                        cases re with
                        | ex c ρ6 => cases hgo'
                        | ok rv ρ6 =>
                          cases rv with
                          | o j => cases hgo'
                          | d d6 =>
                            refine ⟨F5, ρ5, fp5, _, s5.env, hte, fun y6 H6 F6 fp6 s6 r6 => ?_⟩
                            obtain ⟨hD6, hF6, hO6⟩ := step_keeps s6.st hD5 hF5 hO5
                            have b6 := b5.trans ((Blk.of_e (vs := vs) (T := T2 ++ T3) s5.env s6 (fun i hi => List.mem_append_right _ hi)).hid hF6 hO6 hD6)
                            simp only at hgo'
                            split at hgo'
                            · rename_i hn6
                              rw [Bool.and_eq_true] at hn6
                              have hacc6 := dqAll_mono (g3.f.trans (s5.st.fr.trans s6.st.fr)) _ _ hacc
                              refine ⟨acc, hD6, ?_, F6, wipeR ρ6 vs, fp6, acc ++ [y6], ds' ++ [d6], ?_, upd_same, hF6, hO6, dqAll_app hacc6 (.cons r6 .nil), hgo'⟩
                              · have := small_iff.mp hn6.1
                                rw [dqAll_len hacc6]
                                omega
                              · rw [hid_upd]
                                have bw := (Blk.of_w (T := T2 ++ T3) (σin := wipe σ vs) s6.env hn6.2 (by rw [wipe_length]; exact b6.len.symm) fun i hi => by rw [wipe_out hi]; exact (b6.sv i hi).symm).hid hF6 hO6 hD6
                                exact b6.trans bw
                            · cases hgo'
            · rw [List.drop_length] at hgo'
              cases (Option.some.inj hgo')
              -- the end: the slots as they were
              have E' := env_show b.st.env
              have hl1 : ρ1.length = ρe.length := b.rl.symm
              have slot : ∀ (i : Nat), i ∈ vs → (restR ρ1 ρe vs)[i]? = ρ1[i]? := fun i hi => restR_in hl1 hi
              have Er : EnvOk K F' H' σ (restR ρ1 ρe vs) fp' := by
                refine ⟨E'.sub, by rw [restR_len, ← hl1]; exact s1.env.len, fun i s hs => ?_, fun i hi => ?_, E'.nd, E'.ap, E'.tb, E'.al' (fun j i p h => ?_) fun i p t h => ?_⟩
                rotate_left 2
                · by_cases hv : j ∈ vs
                  · rw [slot j hv] at h; exact absurd h (noOwn_al hn1 hv i p)
                  · rw [restR_out hv] at h; exact ⟨h, (wipe_out hv).symm⟩
                · by_cases hv : i ∈ vs
                  · rw [slot i hv] at h; exact absurd h (noOwn_get hn1 hv _ t)
                  · rw [restR_out hv] at h; exact ⟨h, (wipe_out hv).symm, fun _ _ => rfl⟩
                rotate_right 2
                · by_cases hv : i ∈ vs
                  · rw [slot i hv] at hs
                    have q := s1.env.sl i s hs
                    cases s with
                    | no => trivial
                    | al _ _ => trivial
                    | val d => obtain ⟨u, e1, e2⟩ := q; exact ⟨u, e1, dq_mono b.st.fr _ _ e2⟩
                    | own m t => exact absurd hs (noOwn_get hn1 hv m t)
                  · rw [restR_out hv] at hs
                    have q := E'.sl i s hs
                    rw [wipe_out hv] at q
                    exact q
                · by_cases hv : i ∈ vs
                  · exact E'.nil i fun m t z => noOwn_get hne hv m t z
                  · refine E'.nil i fun m t z => hi m t ?_
                    rw [restR_out hv]; exact z
              have fin : EStep K (T1 ++ (T2 ++ T3)) F1 H1 σ ρ1 fp1 F' H' (restR ρ1 ρe vs) fp' := by
                refine ⟨⟨Er, b.st.fr, b.st.nf, fun c hc => ?_, fun c o hc hn nt => (hid_some (b.st.frame c o hc hn nt)).2, b.st.own, fun i m t h hm => ?_, fun i t h => ?_⟩, fun i m t h => ?_, fun i hi => ?_⟩
                · refine b.st.dom c ?_
                  by_cases z : c = D
                  · subst z; exact hid_at
                  · rw [hid_ne z]; exact hc
                · have hv : i ∉ vs := fun z => noOwn_get hn1 z _ _ h
                  obtain ⟨_, m', t', h', k'⟩ := b.st.pin i m t h hm
                  exact ⟨rfl, m', t', by rw [restR_out hv]; exact h', k'⟩
                · have hv : i ∉ vs := fun z => noOwn_get hn1 z _ _ h
                  obtain ⟨_, h', hfp, hb⟩ := b.st.lock i t h
                  refine ⟨rfl, by rw [restR_out hv]; exact h', hfp, fun c hc => ?_⟩
                  have z := hb c hc
                  have hne : c ≠ D := fun z => by subst z; exact hOD ⟨i, hc⟩
                  rw [hid_ne hne] at z
                  exact z
                · have hv : i ∉ vs := fun z => noOwn_get hn1 z _ _ h
                  obtain ⟨t', h'⟩ := b.ko i m t hv h
                  exact ⟨t', by rw [restR_out hv]; exact h'⟩
                · by_cases hv : i ∈ vs
                  · have hnil : fp1 i = [] := s1.env.nil i fun m t z => noOwn_get hn1 hv m t z
                    have hnil' : fp' i = [] := E'.nil i fun m t z => noOwn_get hne hv m t z
                    refine ⟨slot i hv, by rw [hnil, hnil'], fun c hc => ?_⟩
                    rw [hnil] at hc
                    cases hc
                  · obtain ⟨a1, a2, a3⟩ := b.un i hv fun z => hi (List.mem_append_right _ z)
                    refine ⟨by rw [restR_out hv]; exact a1, a2, fun c hc => ?_⟩
                    have z := a3 c hc
                    have hne : c ≠ D := fun z => by subst z; exact hOD ⟨i, hc⟩
                    rw [hid_ne hne] at z
                    exact z
              refine P (.ref D) H' F' fp' ((s1.sub fun i hi => List.mem_append_left _ hi).trans fin) ⟨[D], ?_⟩
              refine ⟨.lst hD hFD' (trs_dat hacc), by simp, fun c hc => ?_, fun c hc => ?_⟩
              · rw [List.mem_singleton.mp hc]
                exact .inl (s1.st.dom D nD)
              · rw [List.mem_singleton.mp hc]
                exact hOD'
          · cases e
        · cases e
      · cases e
theorem vn_comp {elt tg iter : Expr} {ifs : List Expr} {scope : Scope} {own : List (Str × Nat)} {fi : M (List PyData)} {gt : TG} {ws : List Nat} {G : MG} {tt : M Bool} {te : M Rv} (hc : X.calm = true) (hN : X.N.Nodup) (hi : VI X T1 W tg iter fi) (ok : BlkOk X.N X.env.scope scope own)
    (hg : ∀ (s : Shared) (H : Hp) (C : Addr) (cl : List (Str × Addr)) (fp : List Addr), VG (X.blk s H scope (compEnvC scope cl C X.env) fp) tg gt ws G) (hw : ∀ i ∈ ws, i ∈ own.map (·.2))
    (ht : ∀ (s : Shared) (H : Hp) (C : Addr) (cl : List (Str × Addr)) (fp : List Addr), VTs (X.blk s H scope (compEnvC scope cl C X.env) fp) T2 W0 ifs tt)
    (he : ∀ (s : Shared) (H : Hp) (C : Addr) (cl : List (Str × Addr)) (fp : List Addr), VE (X.blk s H scope (compEnvC scope cl C X.env) fp) T3 W0 elt te) (hs : ∀ x, foldedSetIterable iter X.env x = pure x := by intro _; rfl) :
    VN X (T1 ++ (T2 ++ T3)) W (.ListComp elt [⟨tg, iter, ifs, 0⟩] scope pos) (nComp fi (own.map (·.2)) G tt te) := by
  obtain ⟨wi, p1, q1⟩ := hi
  exact pe_imp (pe_lc (tt := tVT X.K T2 W0 tt) (te := tV X.K T3 W0 te) hc hN p1 ok (fun s H C cl fp => (hg s H C cl fp).1) ht he hs) fun σ H Q h => tv_comp q1 (hg ⟨X.s_0.heap, X.s_0.gens, X.s_0.drawn, X.s_0.toks, X.s_0.os⟩ X.H_0 0 [] []).2 hw h
theorem vs_setCompV {i : Nat} {y : Str} {py spos : Pos} {elt tg iter : Expr} {ifs : List Expr} {scope : Scope} {own : List (Str × Nat)} {fi : M (List PyData)} {gt : TG} {ws : List Nat} {G : MG} {tt : M Bool} {te : M Rv} (hc : X.calm = true) (hN : X.N.Nodup) (hi : VI X T1 W tg iter fi) (ok : BlkOk X.N X.env.scope scope own)
    (hg : ∀ (s : Shared) (H : Hp) (C : Addr) (cl : List (Str × Addr)) (fp : List Addr), VG (X.blk s H scope (compEnvC scope cl C X.env) fp) tg gt ws G) (hw : ∀ i ∈ ws, i ∈ own.map (·.2))
    (ht : ∀ (s : Shared) (H : Hp) (C : Addr) (cl : List (Str × Addr)) (fp : List Addr), VTs (X.blk s H scope (compEnvC scope cl C X.env) fp) T2 W0 ifs tt)
    (he : ∀ (s : Shared) (H : Hp) (C : Addr) (cl : List (Str × Addr)) (fp : List Addr), VE (X.blk s H scope (compEnvC scope cl C X.env) fp) T3 W0 elt te) (hy : X.N[i]? = some y := by rfl) (hyl : X.env.scope.names.lookup y = some .local := by rfl)
    (hsw : swapsWith (.ListComp elt [⟨tg, iter, ifs, 0⟩] scope pos) (some (.Name y py)) spos.line X.env = pure true := by exact sw_true rfl rfl rfl (by decide +kernel)) (hs : ∀ x, foldedSetIterable iter X.env x = pure x := by intro _; rfl) :
    VS X W (.Assign [.Name y py] (.ListComp elt [⟨tg, iter, ifs, 0⟩] scope pos) spos) (sSet i (cFrz (nComp fi (own.map (·.2)) G tt te))) := by
  obtain ⟨wi, p1, q1⟩ := hi
  refine ps_imp (ps_setLc (tt := tVT X.K T2 W0 tt) (te := tV X.K T3 W0 te) hc hN hy hyl hsw p1 ok (fun s H C cl fp => (hg s H C cl fp).1) ht he hs) fun D σ H ⟨F, ρ, fp, o, E, e, P⟩ => ?_
  refine tv_comp (T1 := T1) q1 (hg ⟨X.s_0.heap, X.s_0.gens, X.s_0.drawn, X.s_0.toks, X.s_0.os⟩ X.H_0 0 [] []).2 hw (tv_frz (tv_st E e P fun r ρ1 v H1 F1 fp1 s1 r1 e1 _ => ?_))
  cases r with
  | o _ => cases e1
  | d d =>
    obtain ⟨ρ2, e2, rfl⟩ := map_some e1
    exact P _ H1 F1 _ (put_val s1.st e2 r1)
end
end VL

end

section
set_option Elab.async false
set_option linter.all false
set_option maxRecDepth 100000
namespace VL
open PySem PySem.Spec PyProof.Rows L2

theorem kids_set {t k k' : Tr} {j : Nat} (h : (kids t)[j]? = some k) : (kids (setKid t j k'))[j]? = some k' := by
  have hj := (List.getElem?_eq_some_iff.mp h).1
  cases t with
  | dat _ => simp [kids] at hj
  | fk _ => simp [kids] at hj
  | ft _ => simp [kids] at hj
  | raw _ => simp [kids] at hj
  | sd _ => simp [kids] at hj
  | hole => simp [kids] at hj
  | dn _ => simp [kids] at hj
  | sn _ => simp [kids] at hj
  | tup ts => exact List.getElem?_set_self hj
  | lst ts => exact List.getElem?_set_self hj
  | dk ts => show ((setSnd ts j k').map (·.2))[j]? = _; rw [setSnd_snd]; exact List.getElem?_set_self hj
  | dt ts => show ((setSnd ts j k').map (·.2))[j]? = _; rw [setSnd_snd]; exact List.getElem?_set_self hj
  | ins c ts => show ((setSnd ts j k').map (·.2))[j]? = _; rw [setSnd_snd]; exact List.getElem?_set_self hj
theorem put_at : ∀ {p : List Nat} {t y t0 : Tr}, t.at p = some t0 → (t.put p y).at p = some y
  | [], t, y, t0, h => by simp [Tr.put, Tr.at]
  | j :: p, t, y, t0, h => by
    simp only [Tr.at] at h
    split at h
    · rename_i k hk
      simp only [Tr.put, hk, Tr.at, kids_set hk]
      exact put_at h
    · cases h
theorem put_app : ∀ {p q : List Nat} {t y tp : Tr}, t.at p = some tp → t.put (p ++ q) y = t.put p (tp.put q y)
  | [], q, t, y, tp, h => by
    simp only [Tr.at] at h
    cases h
    simp [Tr.put]
  | j :: p, q, t, y, tp, h => by
    simp only [Tr.at] at h
    split at h
    · rename_i k hk
      simp only [List.cons_append, Tr.put, hk]
      rw [put_app h]
    · cases h
theorem at_appB : ∀ {p q : List Nat} {t tp : Tr}, t.at p = some tp → t.at (p ++ q) = tp.at q
  | [], q, t, tp, h => by
    simp only [Tr.at] at h
    cases h
    rfl
  | j :: p, q, t, tp, h => by
    simp only [Tr.at] at h
    split at h
    · rename_i k hk
      simp only [List.cons_append, Tr.at, hk]
      exact at_appB h
    · cases h
theorem path_app {H : Hp} : ∀ {p q : List Nat} {u v : V}, pathV H u p = some v → pathV H u (p ++ q) = pathV H v q
  | [], q, u, v, h => by
    simp only [pathV] at h
    cases h
    rfl
  | j :: p, q, u, v, h => by
    simp only [pathV] at h
    split at h
    · rename_i k hk
      simp only [List.cons_append, pathV, hk]
      exact path_app h
    · cases h
noncomputable def Md.wr (m : Md) (r : List Nat) : Prop := m ≠ .lock ∧ ∀ p, m = .bor p → ∃ r', r = p ++ r'
theorem mut_step {K : Fg} {T : List Nat} {F0 H0 F H : Hp} {σ : Sg} {ρ0 ρ : Rho} {fp0 fp : FP} {i : Nat} {m : Md} {t t' t'' : Tr} {u : V} {a : Addr} {p : List Nat} {A : List Addr} {o : HO}
    (s1 : EStep K T F0 H0 σ ρ0 fp0 F H ρ fp) (hi : ρ[i]? = some (.own m t)) (hm : m.wr p) (hu : sg σ i = some u) (hp : t.at p = some t') (hv : pathV H u p = some (.ref a)) (hA : ∀ b ∈ A, ¬ Owns fp b) (hnA : A.Nodup) (hw : ∀ b ∈ A, H0 b = none ∨ Owns fp0 b)
    (ht : ∀ B, TrOk K F H (.ref a) t' B → B.Nodup → (∀ b ∈ A, b ∉ B) → a ∈ B ∧ ∃ B', TrOk K F (upd H a o) (.ref a) t'' B' ∧ B'.Nodup ∧ ∀ b ∈ B', b ∈ B ∨ b ∈ A) :
    ∃ fp', EStep K (T ++ [i]) F0 H0 σ ρ0 fp0 F (upd H a o) (ρ.set i (.own m (t.put p t''))) fp' ∧ (∀ b, Owns fp' b → Owns fp b ∨ b ∈ A) := by
  have E := s1.env
  obtain ⟨u', e1, q⟩ := E.sl i _ hi
  rw [hu] at e1; cases e1
  obtain ⟨v', pre, B, post, g1, g2, g3, g4⟩ := focus q hp
  rw [hv] at g1; cases g1
  have hnd := E.nd i
  rw [g2] at hnd
  have hndB : B.Nodup := (List.nodup_append.mp (List.nodup_append.mp hnd).2.1).1
  have inB : ∀ b ∈ B, b ∈ fp i := fun b z => by rw [g2]; exact List.mem_append_right _ (List.mem_append_left _ z)
  obtain ⟨haB, B', q', hndB', hB'⟩ := ht B g3 hndB fun b hb z => hA b hb ⟨i, inB b z⟩
  have hfree : ∀ b ∈ fp i, F b = none := fun b z => (q.mem b z).2
  have disj1 : ∀ b ∈ pre, ∀ c ∈ B ++ post, b ≠ c := (List.nodup_append.mp hnd).2.2
  have disj2 : ∀ b ∈ B, ∀ c ∈ post, b ≠ c := (List.nodup_append.mp (List.nodup_append.mp hnd).2.1).2.2
  have nea : ∀ b, b ∈ pre ∨ b ∈ post → b ≠ a := fun b z e => by
    rcases z with z | z
    · exact disj1 b z a (List.mem_append_left _ haB) e
    · exact disj2 a haB b z e.symm
  have hin : ∀ b, b ∈ pre ∨ b ∈ post → b ∈ fp i := fun b z => by
    rw [g2]
    rcases z with z | z
    · exact List.mem_append_left _ z
    · exact List.mem_append_right _ (List.mem_append_right _ z)
  obtain ⟨qn, _⟩ := g4 F (upd H a o) t'' B' (Same.refl _) (fun b z => ⟨upd_ne (nea b z), hfree b (hin b z)⟩) q'
  have hil : i < ρ.length := (List.getElem?_eq_some_iff.mp hi).1
  have haO : a ∈ fp i := inB a haB
  have mem' : ∀ b, b ∈ pre ++ (B' ++ post) → b ∈ fp i ∨ b ∈ A := fun b z => by
    rcases List.mem_append.mp z with z | z
    · exact .inl (hin b (.inl z))
    · rcases List.mem_append.mp z with z | z
      · exact (hB' b z).imp_left (inB b)
      · exact .inl (hin b (.inr z))
  have hndn : (pre ++ (B' ++ post)).Nodup := by
    have cross : ∀ b ∈ B', ∀ c, c ∈ pre ∨ c ∈ post → b ≠ c := fun b hb c hc e => by
      subst e
      rcases hB' b hb with z | z
      · rcases hc with w | w
        · exact disj1 b w b (List.mem_append_left _ z) rfl
        · exact disj2 b z b w rfl
      · exact hA b z ⟨i, hin b hc⟩
    refine List.nodup_append.mpr ⟨(List.nodup_append.mp hnd).1, List.nodup_append.mpr ⟨hndB', (List.nodup_append.mp (List.nodup_append.mp hnd).2.1).2.1, fun b hb c hc => cross b hb c (.inr hc)⟩, fun b hb c hc => ?_⟩
    rcases List.mem_append.mp hc with z | z
    · exact fun e => cross c z b (.inl hb) e.symm
    · exact disj1 b hb c (List.mem_append_right _ z)
  have ow : ∀ b, Owns (fset fp i (pre ++ (B' ++ post))) b → Owns fp b ∨ b ∈ A := fun b hb => by
    rcases hb.fset with z | z
    · exact (mem' b z).imp_left fun w => ⟨i, w⟩
    · exact .inl z
  have neJ : ∀ j, j ≠ i → ∀ b ∈ fp j, b ≠ a := fun j hj b hb e => by subst e; exact hj (E.ap j i b hb haO)
  have alK : AlOk (upd H a o) σ (ρ.set i (.own m (t.put p t''))) := by
    intro j k pa tt h1 h2
    have hji : i ≠ j := fun z => by
      subst z
      rw [List.getElem?_set_self hil] at h1
      cases h1
    rw [List.getElem?_set_ne hji] at h1
    by_cases hk : i = k
    · subst hk
      rw [List.getElem?_set_self hil] at h2
      cases h2
      obtain ⟨r', rfl⟩ := hm.2 pa rfl
      obtain ⟨tp, u1, v1, c1, c2, c3, c4⟩ := E.al j i pa t h1 hi
      rw [hu] at c2; cases c2
      obtain ⟨v2, pre1, B1, post1, k1, k2, k3, k4⟩ := focus q c1
      rw [c4] at k1; cases k1
      rw [at_appB c1] at hp
      rw [path_app c4] at hv
      obtain ⟨v3, pre2, B2, post2, l1, l2, l3, l4⟩ := focus k3 hp
      rw [hv] at l1; cases l1
      have nd1 := E.nd i
      rw [k2] at nd1
      have ndB1 : B1.Nodup := (List.nodup_append.mp (List.nodup_append.mp nd1).2.1).1
      have ndB2 : B2.Nodup := by rw [l2] at ndB1; exact (List.nodup_append.mp (List.nodup_append.mp ndB1).2.1).1
      have in1 : ∀ b ∈ B1, b ∈ fp i := fun b z => by rw [k2]; exact List.mem_append_right _ (List.mem_append_left _ z)
      have in2 : ∀ b ∈ B2, b ∈ B1 := fun b z => by rw [l2]; exact List.mem_append_right _ (List.mem_append_left _ z)
      obtain ⟨haB2, B3, q3, _, _⟩ := ht B2 l3 ndB2 fun b hb z => hA b hb ⟨i, in1 b (in2 b z)⟩
      have o1 : ∀ b, b ∈ pre1 ∨ b ∈ post1 → b ≠ a := fun b z e => by
        subst e
        rcases z with z | z
        · exact (List.nodup_append.mp nd1).2.2 b z b (List.mem_append_left _ (in2 b haB2)) rfl
        · exact (List.nodup_append.mp (List.nodup_append.mp nd1).2.1).2.2 b (in2 b haB2) b z rfl
      rw [l2] at ndB1
      have o2 : ∀ b, b ∈ pre2 ∨ b ∈ post2 → b ≠ a := fun b z e => by
        subst e
        rcases z with z | z
        · exact (List.nodup_append.mp ndB1).2.2 b z b (List.mem_append_left _ haB2) rfl
        · exact (List.nodup_append.mp (List.nodup_append.mp ndB1).2.1).2.2 b haB2 b z rfl
      have m1 : ∀ b, b ∈ pre1 ∨ b ∈ post1 → b ∈ fp i := fun b z => by
        rw [k2]
        rcases z with z | z
        · exact List.mem_append_left _ z
        · exact List.mem_append_right _ (List.mem_append_right _ z)
      have m2 : ∀ b, b ∈ pre2 ∨ b ∈ post2 → b ∈ fp i := fun b z => in1 b (by
        rw [l2]
        rcases z with z | z
        · exact List.mem_append_left _ z
        · exact List.mem_append_right _ (List.mem_append_right _ z))
      obtain ⟨n1, _⟩ := l4 F (upd H a o) t'' B3 (Same.refl _) (fun b z => ⟨upd_ne (o2 b z), hfree b (m2 b z)⟩) q3
      obtain ⟨_, n2⟩ := k4 F (upd H a o) _ _ (Same.refl _) (fun b z => ⟨upd_ne (o1 b z), hfree b (m1 b z)⟩) n1
      exact ⟨_, u, v1, by rw [put_app c1]; exact put_at c1, hu, c3, n2⟩
    · rw [List.getElem?_set_ne hk] at h2
      obtain ⟨tp, u1, v1, c1, c2, c3, c4⟩ := E.al j k pa tt h1 h2
      obtain ⟨u', e, qk⟩ := E.sl k _ h2
      rw [c2] at e; cases e
      exact ⟨tp, u1, v1, c1, c2, c3, path_stays qk c1 c4 fun b hb => upd_ne (neJ k (Ne.symm hk) b hb)⟩
  refine ⟨fset fp i (pre ++ (B' ++ post)), ⟨⟨⟨?_, by rw [List.length_set]; exact E.len, fun j s hs => ?_, fun j hj => ?_, fun j => ?_, fun j l b h1 h2 => ?_, E.tb.upd (E.ntb ⟨i, haO⟩), alK⟩, s1.st.fr, s1.st.nf, fun b hb => ?_, fun b ob hb hn nt => ?_, fun b hb => ?_, fun j mj tj hj hmj => ?_, fun j tj hj => ?_⟩, fun j mj tj hj => ?_, fun j hj => ?_⟩, ow⟩
  · intro b ob e
    rw [upd_ne fun z => by subst z; rw [hfree b haO] at e; cases e]
    exact E.sub b ob e
  · by_cases hji : i = j
    · subst hji
      rw [List.getElem?_set_self hil] at hs
      cases hs
      unfold fset
      rw [if_pos rfl]
      exact ⟨u, hu, qn⟩
    · rw [List.getElem?_set_ne hji] at hs
      unfold fset
      rw [if_neg (Ne.symm hji)]
      have qj := E.sl j s hs
      cases s with
      | no => trivial
      | al _ _ => trivial
      | val d => exact qj
      | own mj tj =>
        obtain ⟨w, e1, e2⟩ := qj
        exact ⟨w, e1, e2.move (Same.refl _) fun b hb => ⟨upd_ne (neJ j (Ne.symm hji) b hb), (e2.mem b hb).2⟩⟩
  · unfold fset
    by_cases hji : j = i
    · subst hji
      exact absurd (List.getElem?_set_self hil) (hj m _)
    · rw [if_neg hji]
      refine E.nil j fun mj tj z => hj mj tj ?_
      rw [List.getElem?_set_ne (Ne.symm hji)]
      exact z
  · unfold fset
    split
    · exact hndn
    · exact E.nd j
  · unfold fset at h1 h2
    split at h1
    · split at h2
      · omega
      · rename_i h3 h4
        rcases mem' b h1 with z | z
        · exact absurd (E.ap i l b z h2).symm h4
        · exact absurd ⟨l, h2⟩ (hA b z)
    · split at h2
      · rename_i h3 h4
        rcases mem' b h2 with z | z
        · exact absurd (E.ap j i b h1 z) h3
        · exact absurd ⟨j, h1⟩ (hA b z)
      · exact E.ap j l b h1 h2
  · by_cases e : b = a
    · subst e; rw [upd_same] at hb; cases hb
    · rw [upd_ne e] at hb; exact s1.st.dom b hb
  · have e : b ≠ a := fun z => by
      subst z
      rcases s1.st.own b ⟨i, haO⟩ with w | w
      · exact hn w
      · rw [hb] at w; cases w
    rw [upd_ne e]
    exact s1.st.frame b ob hb hn nt
  · rcases ow b hb with z | z
    · exact s1.st.own b z
    · exact (hw b z).symm
  · obtain ⟨_, m1, t1, h1, k1⟩ := s1.st.pin j mj tj hj hmj
    by_cases hji : i = j
    · subst hji
      rw [hi] at h1; cases h1
      exact ⟨rfl, _, _, List.getElem?_set_self hil, k1⟩
    · exact ⟨rfl, m1, t1, by rw [List.getElem?_set_ne hji]; exact h1, k1⟩
  · obtain ⟨_, h1, h2, h3⟩ := s1.st.lock j tj hj
    have hji : i ≠ j := fun z => by subst z; rw [hi] at h1; cases h1; exact hm.1 rfl
    refine ⟨rfl, by rw [List.getElem?_set_ne hji]; exact h1, ?_, fun b hb => ?_⟩
    · unfold fset; rw [if_neg (Ne.symm hji)]; exact h2
    · rw [upd_ne (neJ j (Ne.symm hji) b (by rw [h2]; exact hb))]; exact h3 b hb
  · obtain ⟨t1, h1⟩ := s1.ko j mj tj hj
    by_cases hji : i = j
    · subst hji
      rw [hi] at h1; cases h1
      exact ⟨_, List.getElem?_set_self hil⟩
    · exact ⟨t1, by rw [List.getElem?_set_ne hji]; exact h1⟩
  · have hji : i ≠ j := fun z => hj (List.mem_append_right _ (by simp [z]))
    obtain ⟨h1, h2, h3⟩ := s1.un j fun z => hj (List.mem_append_left _ z)
    refine ⟨by rw [List.getElem?_set_ne hji]; exact h1, ?_, fun b hb => ?_⟩
    · unfold fset; rw [if_neg (Ne.symm hji)]; exact h2
    · rw [upd_ne (neJ j (Ne.symm hji) b (by rw [h2]; exact hb))]; exact h3 b hb

noncomputable def rlP (K : Fg) : Rl K (Nat × List Nat) V := ⟨fun _ _ _ H' _ σ ρ' v r => ∃ u m t t', sg σ r.1 = some u ∧ ρ'[r.1]? = some (Sl.own m t) ∧ t.at r.2 = some t' ∧ pathV H' u r.2 = some v, fun _ h => h⟩
noncomputable def VP (X : Cx) (T : List Nat) (W : WV) (e : Expr) (f : M (Nat × List Nat)) : Prop := PE X e (fun σ H Q => TVg T W (rlP X.K) f σ H Q)
noncomputable def pVar (i : Nat) : M (Nat × List Nat) := fun ρ => match ρ[i]? with
  | some (.own _ _) => some (.ok (i, []) ρ)
  | _ => none
noncomputable def treeAt (ρ : Rho) (r : Nat × List Nat) : Option Tr := match ρ[r.1]? with
  | some (.own _ t) => t.at r.2
  | _ => none
section
variable {X : Cx} {T T1 T2 : List Nat} {W : WV} {fa fb : M Rv} {fp1 : M (Nat × List Nat)} {a b e : Expr} {pos : Pos}
theorem vp_var (i : Nat) {x : Str} {pos : Pos} (hN : X.N[i]? = some x := by rfl) (hv : Vis X.env.scope x := by first | exact Or.inl rfl | exact Or.inr (Or.inl rfl) | exact Or.inr (Or.inr rfl)) (hd : (x == ("__debug__" : Str)) = false := by decide)
    (hcd : (x == ("__classdict__" : Str)) = false := by decide) : VP X [] W (.Name x pos) (pVar i) := by
  refine pe_imp (pe_var hN hv hd hcd) fun σ H Q ⟨F, ρ, fp, o, E, e, P⟩ => ?_
  unfold pVar at e
  split at e
  · rename_i m t h
    cases ok_inj e
    obtain ⟨u, hu, q⟩ := E.sl i _ h
    exact ⟨u, sg_some.mp hu, P u H F fp (.refl E) ⟨u, m, t, t, hu, h, rfl, rfl⟩⟩
  · cases e
theorem place_step {K : Fg} {F H F1 H1 : Hp} {σ : Sg} {ρ ρ1 : Rho} {fp fp1 : FP} {v : V} {r : Nat × List Nat} (E : EnvOk K F H σ ρ fp) (s : EStep K T F H σ ρ fp F1 H1 ρ1 fp1) (hT : r.1 ∉ T)
    (h : ∃ u m t t', sg σ r.1 = some u ∧ ρ[r.1]? = some (Sl.own m t) ∧ t.at r.2 = some t' ∧ pathV H u r.2 = some v) : ∃ u m t t', sg σ r.1 = some u ∧ ρ1[r.1]? = some (Sl.own m t) ∧ t.at r.2 = some t' ∧ pathV H1 u r.2 = some v := by
  obtain ⟨u, m, t, t', h1, h2, h3, h4⟩ := h
  obtain ⟨a1, a2, a3⟩ := s.un r.1 hT
  obtain ⟨u', e1, q⟩ := E.sl r.1 _ h2
  rw [h1] at e1; cases e1
  exact ⟨u, m, t, t', h1, by rw [a1]; exact h2, h3, path_stays q h3 h4 a3⟩
theorem place_get {K : Fg} {F H : Hp} {σ : Sg} {ρ : Rho} {fp : FP} {v : V} {r : Nat × List Nat} {t0 : Tr} (E : EnvOk K F H σ ρ fp) (h : ∃ u m t t', sg σ r.1 = some u ∧ ρ[r.1]? = some (Sl.own m t) ∧ t.at r.2 = some t' ∧ pathV H u r.2 = some v) (ht : treeAt ρ r = some t0) :
    ∃ B, TrOk K F H v t0 B ∧ ∀ b ∈ B, b ∈ fp r.1 := by
  obtain ⟨u, m, t, t', h1, h2, h3, h4⟩ := h
  unfold treeAt at ht
  rw [h2] at ht
  simp only [h3] at ht
  cases ht
  obtain ⟨u', e1, q⟩ := E.sl r.1 _ h2
  rw [h1] at e1; cases e1
  obtain ⟨v', pre, B, post, g1, g2, g3, g4⟩ := focus q h3
  rw [h4] at g1; cases g1
  exact ⟨B, g3, fun b z => by rw [g2]; exact List.mem_append_right _ (List.mem_append_left _ z)⟩
noncomputable def cLeaf (f : M (Nat × List Nat)) : M Rv := bnd f fun r => fun ρ => match treeAt ρ r with
  | some (.dat d) => some (.ok (.d d) ρ)
  | _ => none
noncomputable def pIx (T2 : List Nat) (f : M (Nat × List Nat)) (g : M Rv) : M (Nat × List Nat) := bnd f fun r => bnd g fun y => fun ρ => if T2.contains r.1 then none else match treeAt ρ r, y with
  | some (.lst ts), .d (.int n) => (match ixN ts.length n with
    | some j => some (.ok (r.1, r.2 ++ [j]) ρ)
    | none => none)
  | some (.tup ts), .d (.int n) => (match ixN ts.length n with
    | some j => some (.ok (r.1, r.2 ++ [j]) ρ)
    | none => none)
  | _, _ => none
theorem at_app {t' : Tr} : ∀ {p : List Nat} {t : Tr}, t.at p = some t' → ∀ (j : Nat), t.at (p ++ [j]) = (kids t')[j]?
  | [], t, h, j => by
    simp only [Tr.at] at h
    cases h
    simp only [List.nil_append, Tr.at]
    cases q : (kids t')[j]? <;> simp
  | i :: p, t, h, j => by
    simp only [Tr.at, List.cons_append] at h ⊢
    cases q : (kids t)[i]? with
    | none => rw [q] at h; cases h
    | some k => rw [q] at h; exact at_app h j
theorem pathV_app {H : Hp} {w : V} : ∀ {p : List Nat} {v : V}, pathV H v p = some w → ∀ (j : Nat), pathV H v (p ++ [j]) = (kidsV H w)[j]?
  | [], v, h, j => by
    simp only [pathV] at h
    cases h
    simp only [List.nil_append, pathV]
    cases q : (kidsV H w)[j]? <;> simp
  | i :: p, v, h, j => by
    simp only [pathV, List.cons_append] at h ⊢
    cases q : (kidsV H v)[i]? with
    | none => rw [q] at h; cases h
    | some k => rw [q] at h; exact pathV_app h j
theorem atI_of {α : Type} {xs : List α} {n : Int} {j : Nat} (h : ixN xs.length n = some j) : atI xs n = xs[j]? := by
  unfold atI
  rw [h]
  rfl
theorem ixN_lt {m : Nat} {n : Int} {j : Nat} (h : ixN m n = some j) : j < m := by
  unfold ixN at h
  split at h
  · split at h
    · cases h; omega
    · cases h
  · split at h
    · cases h; omega
    · cases h
theorem place_kid {K : Fg} {H : Hp} {σ : Sg} {ρ : Rho} {v w : V} {r : Nat × List Nat} {t0 : Tr} {j : Nat} (h : ∃ u m t t', sg σ r.1 = some u ∧ ρ[r.1]? = some (Sl.own m t) ∧ t.at r.2 = some t' ∧ pathV H u r.2 = some v) (ht : treeAt ρ r = some t0) (hj : j < (kids t0).length) (hw : (kidsV H v)[j]? = some w) :
    ∃ u m t t', sg σ r.1 = some u ∧ ρ[r.1]? = some (Sl.own m t) ∧ t.at (r.2 ++ [j]) = some t' ∧ pathV H u (r.2 ++ [j]) = some w := by
  obtain ⟨u, m, t, t', h1, h2, h3, h4⟩ := h
  unfold treeAt at ht
  rw [h2] at ht
  simp only [h3] at ht
  cases ht
  refine ⟨u, m, t, (kids t0)[j], h1, h2, ?_, ?_⟩
  · rw [at_app h3, List.getElem?_eq_getElem hj]
  · rw [pathV_app h4]; exact hw
theorem vp_ix (ha : VP X T1 W a fp1) (hb : VE X T2 W b fb) (hs : PlainIx b := by intro _ _; rfl) : VP X (T1 ++ T2) W (.Subscript a b pos) (pIx T2 fp1 fb) :=
  pe_imp (pe_ix ix_seq ha hb hs) fun σ H Q ⟨F, ρ, fp, o, E, e, P⟩ => by
    refine tv_bnd E e P (fun i hi => List.mem_append_left _ hi) fun r ρ1 v H1 F1 fp1 s1 r1 e1 P1 => ?_
    refine tv_bnd s1.env e1 P1 (fun i hi => List.mem_append_right _ hi) fun y ρ2 w H2 F2 fp2 s2 r2 e2 P2 => ?_
    split at e2
    · cases e2
    · rename_i hT
      have hT' : r.1 ∉ T2 := fun z => hT (List.contains_iff_mem.mpr z)
      have pl := place_step s1.env s2 hT' r1
      split at e2
      · rename_i ts n ht
        split at e2
        · rename_i j hj
          cases ok_inj e2
          obtain ⟨B, q, _⟩ := place_get s2.env pl ht
          cases r2
          cases q with
          | @lst a0 vs _ A h1 h2 h3 =>
            have hl := h3.len
            have hjl := ixN_lt hj
            refine .inl ⟨a0, vs, n, vs[j]'(by omega), rfl, rfl, SqL.of h1, ?_, P2 _ H2 F2 fp2 (.refl s2.env) ?_⟩
            · rw [atI_of (by rw [hl]; exact hj), List.getElem?_eq_getElem]
            · exact place_kid (K := X.K) pl ht hjl (by simp [kidsV, h1, List.getElem?_eq_getElem, hl, hjl])
        · cases e2
      · rename_i ts n ht
        split at e2
        · rename_i j hj
          cases ok_inj e2
          obtain ⟨B, q, _⟩ := place_get s2.env pl ht
          cases r2
          cases q with
          | @tup a0 vs _ A h1 h2 h3 =>
            have hl := h3.len
            have hjl := ixN_lt hj
            refine .inr (.inl ⟨a0, vs, n, vs[j]'(by omega), rfl, rfl, SqT.of h1, ?_, P2 _ H2 F2 fp2 (.refl s2.env) ?_⟩)
            · rw [atI_of (by rw [hl]; exact hj), List.getElem?_eq_getElem]
            · exact place_kid (K := X.K) pl ht hjl (by simp [kidsV, h1, List.getElem?_eq_getElem, hl, hjl])
        · cases e2
      · cases e2

noncomputable def modeOk (ρ : Rho) (i : Nat) : Bool := match ρ[i]? with
  | some (.own .lock _) => false
  | some (.own (.bor _) _) => false
  | some (.own _ _) => true
  | _ => false
noncomputable def putAt (ρ : Rho) (r : Nat × List Nat) (t' : Tr) : Rho := match ρ[r.1]? with
  | some (.own m t) => ρ.set r.1 (.own m (t.put r.2 t'))
  | _ => ρ
noncomputable def app1 (T2 : List Nat) (r : Nat × List Nat) (tn : Tr) : MS := fun ρ => if T2.contains r.1 || !modeOk ρ r.1 then none else match treeAt ρ r with
  | some (.lst ts) => if small (ts.length + 1) then some (.nx (putAt ρ r (.lst (ts ++ [tn])))) else none
  | _ => none
noncomputable def isLst : Option Tr → Bool
  | some (.lst _) => true
  | _ => false
noncomputable def sApp (T2 : List Nat) (f : M (Nat × List Nat)) (g : M Tr) : MS := sE f fun r => fun ρ => if isLst (treeAt ρ r) then sE g (app1 T2 r) ρ else none
end
theorem mode_of {ρ : Rho} {i : Nat} {m : Md} {t : Tr} {r : List Nat} (h : modeOk ρ i = true) (e : ρ[i]? = some (.own m t)) : m.wr r := by
  unfold modeOk at h
  rw [e] at h
  cases m with
  | lock => cases h
  | bor _ => cases h
  | free => exact ⟨(fun z => nomatch z), (fun p z => nomatch z)⟩
  | pin => exact ⟨(fun z => nomatch z), (fun p z => nomatch z)⟩
theorem touch_of {T2 : List Nat} {i : Nat} {ρ : Rho} (h : ¬ (T2.contains i || !modeOk ρ i) = true) : i ∉ T2 ∧ modeOk ρ i = true := by
  cases h1 : T2.contains i with
  | true => rw [h1] at h; exact absurd rfl h
  | false =>
    cases h2 : modeOk ρ i with
    | false => rw [h1, h2] at h; exact absurd rfl h
    | true => exact ⟨fun z => (by rw [List.contains_iff_mem.mpr z] at h1; cases h1), rfl⟩
section
variable {X : Cx} {T T1 T2 : List Nat} {W : WV} {fp1 : M (Nat × List Nat)} {fn : M Tr} {o e : Expr} {pos apos cpos : Pos}
theorem tyL {K : Fg} {H : Hp} {a : Addr} {vs : List V} (h : H a = some (.lst vs)) : tyV K "list" (.ref a) H := Or.inl ⟨rfl, _, Or.inl (Or.inl h)⟩
theorem trs_apps {K : Fg} {F H : Hp} {ws : List V} {us : List Tr} {A : List Addr} (q : TrsOk K F H ws us A) : ∀ {vs : List V} {ts : List Tr} {B : List Addr}, TrsOk K F H vs ts B → TrsOk K F H (vs ++ ws) (ts ++ us) (B ++ A)
  | _, _, _, .nil => by simpa using q
  | _, _, _, .cons h r => by
    have := TrsOk.cons h (trs_apps q r)
    simpa [List.append_assoc] using this
theorem mut_lst {K : Fg} {F0 H0 F H : Hp} {σ : Sg} {ρ0 ρ : Rho} {fp0 fp : FP} {r : Nat × List Nat} {v : V} {ts us : List Tr} {A : List Addr} {ws : List V} (s1 : EStep K T F0 H0 σ ρ0 fp0 F H ρ fp) (hm : modeOk ρ r.1 = true)
    (pl : ∃ u m t t', sg σ r.1 = some u ∧ ρ[r.1]? = some (Sl.own m t) ∧ t.at r.2 = some t' ∧ pathV H u r.2 = some v) (ht : treeAt ρ r = some (.lst ts)) (hA : ∀ b ∈ A, ¬ Owns fp b) (hnA : A.Nodup) (hw : ∀ b ∈ A, H0 b = none ∨ Owns fp0 b) (q : TrsOk K F H ws us A) :
    ∃ a vs, v = .ref a ∧ H a = some (.lst vs) ∧ vs.length = ts.length ∧ ∃ fp', EStep K (T ++ [r.1]) F0 H0 σ ρ0 fp0 F (upd H a (.lst (vs ++ ws))) (putAt ρ r (.lst (ts ++ us))) fp' := by
  obtain ⟨B, qB, hB⟩ := place_get s1.env pl ht
  obtain ⟨u, m, t, t', h1, h2, h3, h4⟩ := pl
  have ht' : t.at r.2 = some (.lst ts) := by
    unfold treeAt at ht
    rw [h2] at ht
    exact ht
  cases qB with
  | @lst a vs _ B0 e1 e2 e3 =>
    refine ⟨a, vs, rfl, e1, e3.len, ?_⟩
    obtain ⟨fp', st, _⟩ := mut_step (o := .lst (vs ++ ws)) (t'' := .lst (ts ++ us)) s1 h2 (mode_of hm h2) h1 ht' h4 hA hnA hw fun B1 q1 nB1 dj => by
      cases q1 with
      | @lst a _ _ B2 f1 f2 f3 =>
        rw [e1] at f1; cases f1
        have nd := List.nodup_cons.mp nB1
        have aA : ∀ b ∈ A, b ≠ a := fun b hb z => by subst z; exact dj b hb List.mem_cons_self
        refine ⟨List.mem_cons_self, a :: (B2 ++ A), .lst upd_same f2 (trs_apps (q.move (Same.refl _) fun b hb => ⟨upd_ne (aA b hb), (q.mem b hb).2⟩) (f3.move (Same.refl _) fun b hb => ⟨upd_ne fun z => by subst z; exact nd.1 hb, (f3.mem b hb).2⟩)), ?_, fun b hb => ?_⟩
        · refine List.nodup_cons.mpr ⟨fun z => ?_, List.nodup_append.mpr ⟨nd.2, hnA, fun b hb c hc e => ?_⟩⟩
          · rcases List.mem_append.mp z with z | z
            · exact nd.1 z
            · exact aA a z rfl
          · subst e
            exact dj b hc (List.mem_cons_of_mem _ hb)
        · rcases List.mem_cons.mp hb with z | z
          · exact .inl (by rw [z]; exact List.mem_cons_self)
          · exact (List.mem_append.mp z).imp_left (List.mem_cons_of_mem _)
    refine ⟨fp', ?_⟩
    have e : putAt ρ r (.lst (ts ++ us)) = ρ.set r.1 (.own m (t.put r.2 (.lst (ts ++ us)))) := by
      unfold putAt
      rw [h2]
    rw [e]
    exact st
theorem isLst_some {o : Option Tr} (h : isLst o = true) : ∃ ts, o = some (.lst ts) := by
  unfold isLst at h
  split at h
  · exact ⟨_, rfl⟩
  · cases h
theorem place_list {K : Fg} {F H : Hp} {σ : Sg} {ρ : Rho} {fp : FP} {v : V} {r : Nat × List Nat} (E : EnvOk K F H σ ρ fp) (h : ∃ u m t t', sg σ r.1 = some u ∧ ρ[r.1]? = some (Sl.own m t) ∧ t.at r.2 = some t' ∧ pathV H u r.2 = some v) (ht : isLst (treeAt ρ r) = true) : tyV K "list" v H := by
  obtain ⟨ts, e⟩ := isLst_some ht
  obtain ⟨B, q, _⟩ := place_get E h e
  cases q with
  | lst h1 _ _ => exact tyL h1
theorem vs_app (h : PE X (.Call (.Attribute o "append" apos) [e] [] cpos) (tBM X.K "list" rAppend (fun σ H Q => TVg T1 W (rlP X.K) fp1 σ H Q) (tCons (tVN X.K T2 W fn) tNil)))
    (hs : swapsWith (.Call (.Attribute o "append" apos) [e] [] cpos) none pos.line X.env = pure false := by rfl) :
    VS X W (.Expr (.Call (.Attribute o "append" apos) [e] [] cpos) pos) (sApp T2 fp1 fn) :=
  ps_imp (ps_expr h hs) fun D σ H ⟨F, ρ, fp, ou, E, q, P⟩ => by
    refine tv_st E q P fun r ρ1 v H1 F1 fp1 s1 r1 e1 P1 => ?_
    split at e1
    · rename_i hl
      refine ⟨place_list s1.env r1 hl, ?_⟩
      refine tv_st (T := T2) s1.env e1 P1 fun tn ρ2 w H2 F2 fp2 s2 ⟨A, n⟩ e2 _ => ?_
      unfold app1 at e2
      split at e2
      · cases e2
      · rename_i hc
        obtain ⟨hT, hc'⟩ := touch_of hc
        have pl := place_step s1.env s2 hT r1
        split at e2
        · rename_i ts hts
          split at e2
          · rename_i hz
            cases (Option.some.inj e2)
            obtain ⟨a, vs, rfl, ha, hlen, fp', st⟩ := mut_lst s2 hc' pl hts n.out n.nd n.new (ws := [w]) (us := [tn]) (by have := TrsOk.cons n.ok TrsOk.nil; simpa using this)
            refine ⟨a, vs, w, rfl, rfl, ha, ?_, P1 σ _ F2 fp' st.st⟩
            have := small_iff.mp hz
            omega
          · cases e2
        · cases e2
    · cases e1
variable {fa : M Rv}
end
end VL

end

section
set_option Elab.async false
set_option linter.all false
set_option maxRecDepth 100000
namespace VL
open PySem PySem.Spec PyProof.Rows L2

section
variable {X : Cx} {T T1 T2 T3 : List Nat} {W : WV} {fp1 : M (Nat × List Nat)} {fa fb : M Rv} {o i e : Expr} {pos tpos : Pos}
noncomputable def setIx1 (T2 : List Nat) (d : PyData) (r : Nat × List Nat) (y : Rv) : MS := fun ρ => if T2.contains r.1 || !modeOk ρ r.1 then none else match treeAt ρ r, y with
  | some (.lst ts), .d (.int n) => (match ixN ts.length n with
    | some j => some (.nx (putAt ρ r (.lst (ts.set j (.dat d)))))
    | none => none)
  | _, _ => none
noncomputable def sSetIx (T2 : List Nat) (fe : M Rv) (f : M (Nat × List Nat)) (fi : M Rv) : MS := sE fe fun x => match x with
  | .d d => sE f fun r => sE fi (setIx1 T2 d r)
  | .o _ => fun _ => none
theorem vs_setIx (he : VE X T1 W e fa) (ho : VP X T2 W o fp1) (hi : VE X T3 W i fb)
    (ha : ∀ v, assign (.Subscript o i tpos) X.env v = (do
      let ov ← holding [v] (eval o X.env)
      let iv ← holding [v, ov] (eval i X.env)
      standAt tpos
      holding [v, ov, iv] (setItem ov iv v)
      release [v, ov, iv] []) := by intro _; rfl)
    (hs : swapsWithSole [.Subscript o i tpos] e pos.line X.env = pure false := by rfl) (hw : swappedStores [.Subscript o i tpos] e X.env = pure none := by rfl)
    (h1 : (assignEach [.Subscript o i tpos] X.env).map (·.2) = [assign (.Subscript o i tpos) X.env] := by rfl) : VS X W (.Assign [.Subscript o i tpos] e pos) (sSetIx T3 fa fp1 fb) :=
  ps_imp (ps_asg he (pg_sub ho hi set_list ha) hs hw h1) fun D σ H ⟨F, ρ, fp, ou, E, q, P⟩ => by
    refine tv_st E q P fun x ρ1 v H1 F1 fp1 s1 r1 e1 P1 => ?_
    cases x with
    | o _ => cases e1
    | d d =>
      refine tv_st (T := T2) s1.env e1 P1 fun r ρ2 w H2 F2 fp2 s2 r2 e2 P2 => ?_
      refine tv_st (T := T3) s2.env e2 P2 fun y ρ3 z H3 F3 fp3 s3 r3 e3 _ => ?_
      unfold setIx1 at e3
      split at e3
      · cases e3
      · rename_i hc
        obtain ⟨hT, hc'⟩ := touch_of hc
        have pl := place_step s2.env s3 hT r2
        split at e3
        · rename_i ts n hts
          split at e3
          · rename_i j hj
            cases (Option.some.inj e3)
            cases r3
            have hd3 : Dq X.K F3 v d := dq_mono (s2.st.fr.trans s3.st.fr) _ _ r1
            obtain ⟨B, qB, hB⟩ := place_get s3.env pl hts
            obtain ⟨u, m, t, t', h1, h2, h3, h4⟩ := pl
            have ht' : t.at r.2 = some (.lst ts) := by
              unfold treeAt at hts
              rw [h2] at hts
              exact hts
            have hjl := ixN_lt hj
            cases qB with
            | @lst a vs _ B0 f1 f2 f3 =>
              have hlen := f3.len
              obtain ⟨fp', st, _⟩ := mut_step (A := []) (o := .lst (vs.set j v)) (t'' := .lst (ts.set j (.dat d))) s3 h2 (mode_of hc' h2) h1 ht' h4 (fun b hb => nomatch hb) List.nodup_nil (fun b hb => nomatch hb) fun B1 q1 nB1 _ => by
                cases q1 with
                | @lst a _ _ B2 g1 g2 g3 =>
                  rw [f1] at g1; cases g1
                  have nd := List.nodup_cons.mp nB1
                  obtain ⟨w1, pre, Bj, post, k1, k2, k3, k4⟩ := trs_repl (j := j) g3 (List.getElem?_eq_getElem hjl)
                  refine ⟨List.mem_cons_self, a :: (pre ++ post), ?_, ?_, fun b hb => ?_⟩
                  · refine .lst upd_same g2 ?_
                    have sub : ∀ b, b ∈ pre ∨ b ∈ post → b ∈ B2 := fun b hb => by
                      rw [k2]
                      rcases hb with z | z
                      · exact List.mem_append_left _ z
                      · exact List.mem_append_right _ (List.mem_append_right _ z)
                    have z := k4 F3 (upd H3 a (.lst (vs.set j v))) v (.dat d) [] (Same.refl _) (fun b hb => ⟨upd_ne fun z => by subst z; exact nd.1 (sub b hb), (g3.mem b (sub b hb)).2⟩) (.dat hd3)
                    exact z
                  · have nB2 := nd.2
                    rw [k2] at nB2
                    refine List.nodup_cons.mpr ⟨fun z => nd.1 ?_, ?_⟩
                    · rw [k2]
                      rcases List.mem_append.mp z with z | z
                      · exact List.mem_append_left _ z
                      · exact List.mem_append_right _ (List.mem_append_right _ z)
                    · exact List.nodup_append.mpr ⟨(List.nodup_append.mp nB2).1, (List.nodup_append.mp (List.nodup_append.mp nB2).2.1).2.1, fun b hb c hc => (List.nodup_append.mp nB2).2.2 b hb c (List.mem_append_right _ hc)⟩
                  · rcases List.mem_cons.mp hb with z | z
                    · exact .inl (by rw [z]; exact List.mem_cons_self)
                    · refine .inl (List.mem_cons_of_mem _ ?_)
                      rw [k2]
                      rcases List.mem_append.mp z with z | z
                      · exact List.mem_append_left _ z
                      · exact List.mem_append_right _ (List.mem_append_right _ z)
              have e : putAt ρ3 r (.lst (ts.set j (.dat d))) = ρ3.set r.1 (.own m (t.put r.2 (.lst (ts.set j (.dat d))))) := by
                unfold putAt
                rw [h2]
              refine ⟨a, vs, n, j, rfl, rfl, f1, by rw [hlen]; exact hj, P2 σ _ F3 fp' ?_⟩
              rw [e]
              exact st.st
          · cases e3
        · cases e3
end

section
variable {X : Cx} {T : List Nat} {W : WV} {fa : M Rv} {e : Expr} {pos : Pos}
noncomputable def tabD (tb : List (Str × PyData)) (x : Rv) : M Rv := fun ρ => match x with
  | .d (.str z) => (match tb.lookup z with
    | some d => some (.ok (.d d) ρ)
    | none => none)
  | _ => none
noncomputable def cTab (tb : List (Str × PyData)) (f : M Rv) : M Rv := bnd f (tabD tb)
end
section
variable {X : Cx} {T1 T2 T3 : List Nat} {W : WV} {fp1 : M (Nat × List Nat)} {fa : M Rv} {fn : M Tr} {o e : Expr} {apos cpos pos : Pos}
theorem vs_appd (ho : VP X T1 W o fp1) (hn : VN X T2 W e fn) (hT : T2 = T3 := by rfl) (hbase : attributeBase o "append" X.env (eval o X.env) = eval o X.env := by rfl)
    (hfew : ((backTo cpos (starEach [e] X.env)).all (fun x => !x.1) && (backToKw cpos (keywordEach [] X.env)).all (fun x => x.1.isSome)
      && decide (([e] : List Expr).length + ([] : List Keyword).length + (if ([] : List Keyword).isEmpty then 0 else 1) < 30)) = true := by rfl)
    (hline : (apos.endLine == cpos.line) = true := by rfl) (hst : starEach [e] X.env = (false, eval e X.env) :: starEach [] X.env := by rfl) (hplain : (backTo cpos (starEach [] X.env)).any (·.1) = false := by rfl)
    (hs : swapsWith (.Call (.Attribute o "append" apos) [e] [] cpos) none pos.line X.env = pure false := by rfl) :
    VS X W (.Expr (.Call (.Attribute o "append" apos) [e] [] cpos) pos) (sApp T3 fp1 fn) :=
  hT ▸ vs_app (pe_bm PySem.F.plainAttrs_list PySem.F.slot_list_append PySem.F.type_list_append mt_append ho (pa_cons hn pa_nil hst) hbase hfew hline hst hplain) hs
end
theorem al_set {K : Fg} {F H : Hp} {σ : Sg} {ρ : Rho} {fp : FP} {i : Nat} {s : Sl} (E : EnvOk K F H σ ρ fp) (hi : i < ρ.length) (hp : plainSl s = true) : AlOk H σ (ρ.set i s) := E.al' (fun j k p h => by
    by_cases hji : i = j
    · subst hji
      rw [List.getElem?_set_self hi] at h
      cases h
      cases hp
    · rw [List.getElem?_set_ne hji] at h
      exact ⟨h, rfl⟩) fun k p t h => by
    by_cases hji : i = k
    · subst hji
      rw [List.getElem?_set_self hi] at h
      cases h
      cases hp
    · rw [List.getElem?_set_ne hji] at h
      exact ⟨h, rfl, fun _ _ => rfl⟩
section
variable {X : Cx} {W : WV} {pos pos' : Pos}
noncomputable def sRetV (i : Nat) : MS := fun ρ => match ρ[i]? with
  | some (.val d) => some (.rt (.dat d) ρ)
  | some (.own .free t) => some (.rt t (ρ.set i .no))
  | _ => none
theorem vs_retV (i : Nat) {x : Str} (hN : X.N[i]? = some x := by rfl) (hv : Vis X.env.scope x := by first | exact Or.inl rfl | exact Or.inr (Or.inl rfl) | exact Or.inr (Or.inr rfl)) (hd : (x == ("__debug__" : Str)) = false := by decide)
    (hcd : (x == ("__classdict__" : Str)) = false := by decide) : VS X W (.Return (some (.Name x pos')) pos) (sRetV i) :=
  ps_imp (ps_ret (pe_var hN hv hd hcd)) fun D σ H ⟨F, ρ, fp, o, E, e, P⟩ => by
    unfold sRetV at e
    split at e
    · rename_i d h
      cases (Option.some.inj e)
      obtain ⟨u, hu, q⟩ := E.sl i _ h
      exact ⟨u, sg_some.mp hu, P u [] σ H F fp (.refl E) ⟨.dat q, List.nodup_nil, (fun b hb => nomatch hb), (fun b hb => nomatch hb)⟩⟩
    · rename_i t h
      cases (Option.some.inj e)
      obtain ⟨u, hu, q⟩ := E.sl i _ h
      have hi : i < ρ.length := (List.getElem?_eq_some_iff.mp h).1
      have alN : AlOk H σ (ρ.set i .no) := al_set E hi rfl
      refine ⟨u, sg_some.mp hu, P u (fp i) σ H F (fset fp i []) ⟨⟨E.sub, by rw [List.length_set]; exact E.len, fun j s hs => ?_, fun j hj => ?_, fun j => ?_, fun j l b h1 h2 => ?_, E.tb, alN⟩, Same.refl _, fun _ h h' => absurd h h', fun _ h => h, fun _ _ h _ _ => h, fun b hb => ?_, fun j mj tj hj hmj => ?_, fun j tj hj => ?_⟩ ⟨q, E.nd i, fun b hb => .inr ⟨i, hb⟩, fun b hb z => ?_⟩⟩
      · unfold fset
        by_cases hji : i = j
        · subst hji
          rw [List.getElem?_set_self hi] at hs
          cases hs
          trivial
        · rw [List.getElem?_set_ne hji] at hs
          rw [if_neg (Ne.symm hji)]
          exact E.sl j s hs
      · unfold fset
        by_cases hji : j = i
        · rw [if_pos hji]
        · rw [if_neg hji]
          refine E.nil j fun m t z => hj m t ?_
          rw [List.getElem?_set_ne (Ne.symm hji)]
          exact z
      · unfold fset
        split
        · exact List.nodup_nil
        · exact E.nd j
      · unfold fset at h1 h2
        split at h1
        · cases h1
        · split at h2
          · cases h2
          · exact E.ap j l b h1 h2
      · rcases hb.fset with z | z
        · cases z
        · exact .inl z
      · have hji : i ≠ j := fun z => by subst z; rw [h] at hj; cases hj; cases hmj
        exact ⟨rfl, mj, tj, by rw [List.getElem?_set_ne hji]; exact hj, hmj⟩
      · have hji : i ≠ j := fun z => by subst z; rw [h] at hj; cases hj
        refine ⟨rfl, by rw [List.getElem?_set_ne hji]; exact hj, ?_, fun _ _ => rfl⟩
        unfold fset
        rw [if_neg (Ne.symm hji)]
      · obtain ⟨j, hj⟩ := z
        unfold fset at hj
        split at hj
        · cases hj
        · rename_i hne
          exact hne (E.ap j i b hj hb)
    · cases e
end
noncomputable def frzSl (ρ : Rho) (i : Nat) : Option Rho := match ρ[i]? with
  | some (.own .free t) => (t.toD).map fun d => ρ.set i (.val d)
  | some (.val _) => some ρ
  | _ => none
noncomputable def sFz (i : Nat) (g : MS) : MS := fun ρ => match frzSl ρ i with
  | some ρ1 => g ρ1
  | none => none
theorem vs_fz {X : Cx} {W : WV} {st : Stmt} {g : MS} (i : Nat) (h : VS X W st g) : VS X W st (sFz i g) := ps_imp h fun D σ H ⟨F, ρ, fp, o, E, e, P⟩ => by
  unfold sFz at e
  cases q : frzSl ρ i with
  | none => rw [q] at e; cases e
  | some ρ1 =>
    rw [q] at e
    unfold frzSl at q
    split at q
    · rename_i t ht
      obtain ⟨d, hd, rfl⟩ := map_some q
      obtain ⟨u, hu, qt⟩ := E.sl i _ ht
      have hi : i < ρ.length := (List.getElem?_eq_some_iff.mp ht).1
      have hA := qt.mem
      have s1 : Same F (frz F H (fp i)) := frz_same fun b hb => (hA b hb).2
      have alN : AlOk H σ (ρ.set i (.val d)) := al_set E hi rfl
      have st1 : Step X.K F H σ ρ fp (frz F H (fp i)) H σ (ρ.set i (.val d)) (fset fp i []) := by
        refine ⟨⟨frz_sub E.sub, by rw [List.length_set]; exact E.len, fun j s hs => ?_, fun j hj => ?_, fun j => ?_, fun j l b h1 h2 => ?_, E.tb.frz (fun b hb => (hA b hb).2) qt.ntb, alN⟩, s1, fun b h h' => ?_, fun _ h => h, fun _ _ h _ _ => h, fun b hb => ?_, fun j mj tj hj hmj => ?_, fun j tj hj => ?_⟩
        · unfold fset
          by_cases hji : i = j
          · subst hji
            rw [List.getElem?_set_self hi] at hs
            cases hs
            refine ⟨u, hu, qt.dp s1 (fun b hb => ?_) hd⟩
            unfold frz
            rw [if_pos hb]
          · rw [List.getElem?_set_ne hji] at hs
            rw [if_neg (Ne.symm hji)]
            have qj := E.sl j s hs
            cases s with
            | no => trivial
            | al _ _ => trivial
            | val d' => obtain ⟨w, e1, e2⟩ := qj; exact ⟨w, e1, dq_mono s1 _ _ e2⟩
            | own m t' =>
              obtain ⟨w, e1, e2⟩ := qj
              refine ⟨w, e1, e2.move s1 fun b hb => ⟨rfl, ?_⟩⟩
              unfold frz
              rw [if_neg fun z => hji (E.ap i j b z hb)]
              exact (e2.mem b hb).2
        · unfold fset
          by_cases hji : j = i
          · rw [if_pos hji]
          · rw [if_neg hji]
            refine E.nil j fun m t z => hj m t ?_
            rw [List.getElem?_set_ne (Ne.symm hji)]
            exact z
        · unfold fset
          split
          · exact List.nodup_nil
          · exact E.nd j
        · unfold fset at h1 h2
          split at h1
          · cases h1
          · split at h2
            · cases h2
            · exact E.ap j l b h1 h2
        · unfold frz at h'
          split at h'
          · rename_i hb
            exact .inr (.inl ⟨i, hb⟩)
          · exact absurd h h'
        · rcases hb.fset with z | z
          · cases z
          · exact .inl z
        · have hji : i ≠ j := fun z => by subst z; rw [ht] at hj; cases hj; cases hmj
          exact ⟨rfl, mj, tj, by rw [List.getElem?_set_ne hji]; exact hj, hmj⟩
        · have hji : i ≠ j := fun z => by subst z; rw [ht] at hj; cases hj
          refine ⟨rfl, by rw [List.getElem?_set_ne hji]; exact hj, ?_, fun _ _ => rfl⟩
          unfold fset
          rw [if_neg (Ne.symm hji)]
      exact ⟨_, _, _, o, st1.env, e, P.step st1⟩
    · cases q
      exact ⟨F, ρ, fp, o, E, e, P⟩
    · cases q
theorem hu65 {k : Nat} {A : Around} (r : Room k A) : A.units + 65 < cLine := by have := r.un; omega
noncomputable def scrD (ns : List Int) : PyData := .dict (ns.map fun i => (.int i, .none))
noncomputable def noTb (H : Hp) : Hp := fun b => match H b with
  | some (.tbl _) => none
  | x => x
theorem noTb_sub {H : Hp} : Same (noTb H) H := fun b o e => by
  unfold noTb at e
  split at e
  · cases e
  · exact e
theorem noTb_of {H : Hp} {b : Addr} {o : HO} (h : H b = some o) (n : ∀ ps, o ≠ .tbl ps) : noTb H b = some o := by
  unfold noTb
  rw [h]
  split
  · rename_i ps e
    exact absurd (Option.some.inj e) (n ps)
  · rfl
theorem noTb_seq {K : Fg} {H : Hp} {a : Addr} {xs : List V} (h : SqL K H a xs) : SqL K (noTb H) a xs := by
  rcases h with (h | ⟨o, h⟩) | h
  · exact .inl (.inl (noTb_of h fun _ z => nomatch z))
  · exact .inl (.inr ⟨o, noTb_of h fun _ z => nomatch z⟩)
  · exact .inr h
noncomputable def Tb0 (K : Fg) (H : Hp) : Prop := ∀ c P, PySem.W.tabIn K "price_meant" = some (c, P) → H P = some (.tbl #[])
theorem tb0_ok {K : Fg} {H : Hp} (h : Tb0 K H) : TbOk K (noTb H) H := fun c P e => by
  have q := h c P e
  refine ⟨?_, #[], q, True.intro, fun pos cv z => ?_⟩
  · unfold noTb
    rw [q]
  · simp [codeAmong] at z
noncomputable def spLaw (K : Fg) : Sp := fun vs H Q _ => ∃ (a : Addr) (ns : List Int), vs = [.ref a] ∧ SqL K H a (ns.map V.int) ∧ ns.length ≤ 63 ∧ Tb0 K H ∧ ∀ H', Q (.bl true) H'
theorem law_imp {K : Fg} {Wx : WX0} {F : Fn} (hF : ∀ ns : List Int, ns.length ≤ 63 → ∃ outs, F [.val (scrD ns)] = some (.ret (.dat (.bool true)), outs)) {vs : List V} {H : Hp} {Q : VK} {E : XK} (h : spLaw K vs H Q E) : spV K Wx 1 F vs H Q E := by
  obtain ⟨a, ns, rfl, hS, hl, h0, k⟩ := h
  obtain ⟨outs, e⟩ := hF ns hl
  refine ⟨rfl, noTb H, [.val (scrD ns)], fun _ => [], _, outs, ⟨noTb_sub, rfl, fun i s hs => ?_, fun _ _ => rfl, fun _ => List.nodup_nil, (fun _ _ _ h => nomatch h), tb0_ok h0, fun j i p t h _ => by
    match j, h with
    | 0, h => cases h
    | j + 1, h => simp at h⟩, e, fun v A H' F' fp' st n => ?_⟩
  · cases i with
    | zero =>
      cases hs
      exact ⟨.ref a, rfl, .scr (noTb_seq hS)⟩
    | succ i => simp at hs
  · generalize hA : A = A' at n
    have q := n.ok
    cases q with
    | dat q =>
      cases q
      exact k H'
noncomputable def TbB (K : Fg) (base : Heap) (mg : Str → Option Value) : Prop := ∀ c P, PySem.W.tabIn K "price_meant" = some (c, P) → LamX.TabB base mg c P
noncomputable def csOf (K : Fg) : List (Addr × Addr) := match PySem.W.tabIn K "price_meant" with
  | some p => [p]
  | none => []
noncomputable def tabChk (q : Program) (K : Fg) : Bool := match PySem.W.tabIn K "price_meant" with
  | some p => (K.lookup p.2).isNone && ((recsOf q).find? fun e : DefRec => e.name == ("price_meant" : Str)).isSome
  | none => true
theorem mem_cs {K : Fg} {p : Addr × Addr} : p ∈ csOf K ↔ PySem.W.tabIn K "price_meant" = some p := by
  unfold csOf
  split
  · rename_i q e
    simp [eq_comm, e]
  · rename_i e
    simp [e]
theorem walk {l : PySem.W.OpenLaw} {q : Program} {loose : List Str} {XP : (Str → Option Value) → Heap → Prop} {YP : World → Heap → Prop} {d : DefRec} {K : Params → PySem.W.Frag} {k : Nat} (hn : l.most = some 63) (hdf : d.params.defaults = []) (hk : Room k callerA)
    (hY : ∀ (w : World) (h : Heap), YP w h → (K w.params).In h) (hT : ∀ w : World, tabChk q (K w.params) = true)
    (F : ∀ (w : World) (mg : Str → Option Value) (fa : Addr) (h : Heap), (K w.params).In h → h.Ns mainGlobals mg → mg d.name = some (.ref fa) →
      ∃ fd : FuncData, (∀ (s : Shared) (u : Value), BindsTo s fd ⟨[u], []⟩ [("script", u)]) ∧ ∀ base : Heap, (K w.params).In base → base.Ns mainGlobals mg → TbB (K w.params) base mg → FnOk l.prog w (K w.params) mg base CX0 k fa fd ["script"] (spLaw (K w.params))) :
    PySem.W.WalkO q loose XP YP l.row.toRowW d [] (fun f vs => PySem.call f vs) := by
  refine Att.attach_callB hn hdf fun w s₀ s₁ mg mb fa o pm cd doc a vs ns G Y ho hd hcd hmg hobj hints hlen hbits hg => ?_
  have KX := hY w _ Y
  obtain ⟨fd, hb, hF⟩ := F w mg fa _ KX G.T.g hmg
  have tk : ∀ p ∈ csOf (K w.params), (K w.params).lookup p.2 = none ∧ PySem.W.CodeHd s₁.heap p.1 p.2 ∧ s₁.heap.get? p.2 = some { cls := .none, data := .fields #[] } := fun p hp => by
    have e := mem_cs.mp hp
    have c := hT w
    unfold tabChk at c
    rw [e] at c
    simp only [Bool.and_eq_true, Option.isNone_iff_eq_none] at c
    obtain ⟨dd, hd⟩ := Option.isSome_iff_exists.mp c.2
    have z := PySem.W.tab_of (x := "price_meant") (c := p.1) (P := p.2) G.T KX hd e
    exact ⟨c.1, z.1, z.2⟩
  refine LamX.law_callTs (cs := csOf (K w.params)) KX G.T.g G.T.b G.T.builtins G.T.nolimit hg (fun p hp => (tk p hp).2.2) (fun p hp => (tk p hp).1) (fun p hp => (tk p hp).2.1) G.T.bmain hobj hints (Nat.le_trans hlen (by decide)) hk
    (fun base h1 h2 h3 => hF base h1 h2 fun c P e => h3 (c, P) (mem_cs.mpr e)) hb (fun H hH hS => ⟨a, ns, rfl, hS, hlen, fun c P e => hH (c, P) (mem_cs.mpr e), fun _ => rfl⟩) fun _ _ _ z => z
noncomputable def KTupV (K : Fg) (t : Addr) (ds : List PyData) : Prop := ∃ vs, (∃ (o : Obj) (its : Array Value) (n : Nat), K.lookup t = some o ∧ o.cls = .type "tuple" ∧ o.data = .seq its n ∧ its.size ≤ sizeLine ∧ Vals vs its.toList) ∧ ∀ F : Hp, DqAll K F vs ds
theorem KTupV.dq {K : Fg} {t : Addr} {ds : List PyData} (h : KTupV K t ds) (hk : kOk ds = true) (F : Hp) : Dq K F (.ref t) (.tuple ds) := by
  obtain ⟨vs, h1, h2⟩ := h
  exact .tups (.inr ⟨hk, h1⟩) (h2 F)
theorem KTupV.k {K : Fg} {t : Addr} {ds : List PyData} (h : KTupV K t ds) : KTup K t ds := by
  obtain ⟨vs, h1, h2⟩ := h
  exact ⟨vs, fun F => .inr h1, h2⟩
end VL

end

section
set_option Elab.async false
set_option linter.all false
set_option maxRecDepth 100000
namespace VL
open PySem PySem.Spec PyProof.Rows L2 HT
section
variable {prog : Program} {w : World} {A : Around} {E : Value → Shared → Prop} {s : Shared}
end
section
variable {X : Cx} {T : List Nat} {W : WV} {a : Expr} {fa : M Rv} {pos p2 p3 p4 : Pos}
noncomputable def rev1 (x : Rv) : M Rv := fun ρ => match x with
  | .d (.tuple ds) => some (.ok (.d (.tuple ds.reverse)) ρ)
  | _ => none
noncomputable def cRev (f : M Rv) : M Rv := bnd f rev1
end
end VL

end

section
set_option Elab.async false
set_option linter.all false
set_option maxRecDepth 100000
namespace VL
open PySem PySem.Spec PyProof.Rows L2
section
variable {X : Cx} {T T1 T2 : List Nat} {W : WV} {K : Fg}
noncomputable def cCnt1 (ds : List PyData) (y : Rv) : M Rv := fun ρ => match y with
  | .d e => if flatD e && ds.all flatD then some (.ok (.d (.int (ds.countP (fun z => PyData.eqv z e) : Nat))) ρ) else none
  | .o _ => none
noncomputable def cCnt (fo fe : M Rv) : M Rv := bnd fo fun x => match x with
  | .d (.list ds) => bnd fe (cCnt1 ds)
  | _ => fun _ => none
variable {o e : Expr} {fo fe : M Rv} {apos cpos : Pos}
noncomputable def intsD : List PyData → Option (List Int)
  | [] => some []
  | .int i :: ds => (intsD ds).map (i :: ·)
  | _ :: _ => none
theorem ints_ok {F : Hp} : ∀ {vs : List V} {ds : List PyData} {ns : List Int}, DqAll K F vs ds → intsD ds = some ns → vs = ns.map V.int
  | _, _, _, .nil, e => by simp only [intsD] at e; cases e; rfl
  | _, _, _, .cons (d := d) h t, e => by
    cases d <;> simp only [intsD] at e <;> try (cases e; done)
    obtain ⟨ms, e1, rfl⟩ := map_some e
    cases h
    rw [ints_ok t e1]
    rfl
noncomputable def sumD : List PyData → Option PyData
  | [.list ds] => (intsD ds).map fun ns => .int ns.sum
  | _ => none
noncomputable def maxI : Int → List Int → Int
  | m, [] => m
  | m, i :: is => maxI (if i > m then i else m) is
noncomputable def minI : Int → List Int → Int
  | m, [] => m
  | m, i :: is => minI (if i < m then i else m) is
noncomputable def maxD : List PyData → Option PyData
  | [.list ds] => (match intsD ds with
    | some (n :: ns) => some (.int (maxI n ns))
    | _ => none)
  | _ => none
noncomputable def minD : List PyData → Option PyData
  | [.list ds] => (match intsD ds with
    | some (n :: ns) => some (.int (minI n ns))
    | _ => none)
  | _ => none
end
end VL

end

section
set_option Elab.async false
set_option linter.all false
set_option maxRecDepth 100000
namespace VL
open PySem PySem.Spec PyProof.Rows L2
noncomputable def keyD : PyData → Option Key
  | .int i => some (.inl i)
  | .str z => some (.inr z)
  | _ => none
noncomputable def keysD : List PyData → Option (List Key)
  | [] => some []
  | d :: ds => match keyD d, keysD ds with
    | some k, some ks => some (k :: ks)
    | _, _ => none
noncomputable def keyT : PyData → Option (List Key)
  | .tuple ds => if kOk ds then none else keysD ds
  | _ => none
section
variable {K : Fg} {F : Hp}
end
noncomputable def getK {κ : Type} [DecidableEq κ] (kvs : List (κ × Tr)) (k : κ) : Option Tr := (kvs.find? fun kv => decide (kv.1 = k)).map (·.2)
noncomputable def lookP {κ : Type} [DecidableEq κ] (kvs : List (κ × PyData)) (k : κ) : Option PyData := (kvs.find? fun kv => decide (kv.1 = k)).map (·.2)
noncomputable def dictAt (t : Tr) (d : PyData) : Option (Option PyData) := match t with
  | .dk kvs => (match keyD d with
    | some k => (match getK kvs k with
      | none => some none
      | some (.dat e) => some (some e)
      | some _ => none)
    | none => none)
  | .dt kvs => (match keyT d with
    | some k => (match getK kvs k with
      | none => some none
      | some (.dat e) => some (some e)
      | some _ => none)
    | none => none)
  | .fk kvs => (match keyD d with
    | some k => some (lookP kvs k)
    | none => none)
  | .ft kvs => (match keyT d with
    | some k => some (lookP kvs k)
    | none => none)
  | .sd kvs => (match keyD d with
    | some k => some (lookP kvs k)
    | none => none)
  | _ => none
section
variable {X : Cx} {T T1 T2 T3 : List Nat} {W : WV} {fk fx : M Rv} {fp1 : M (Nat × List Nat)} {i o e : Expr} {pos : Pos}
noncomputable def dIn1 (neg : Bool) (y : Rv) (r : Nat × List Nat) : M Bool := fun ρ => match y, treeAt ρ r with
  | .d d, some t => (match dictAt t d with
    | some z => some (.ok (if neg then !z.isSome else z.isSome) ρ)
    | none => none)
  | _, _ => none
noncomputable def cDIn (neg : Bool) (fk : M Rv) (f : M (Nat × List Nat)) : M Bool := bnd fk fun y => bnd f (dIn1 neg y)
noncomputable def dGet1 (T2 : List Nat) (r : Nat × List Nat) (y : Rv) : M Rv := fun ρ => if T2.contains r.1 then none else match y, treeAt ρ r with
  | .d d, some t => (match dictAt t d with
    | some (some z) => some (.ok (.d z) ρ)
    | _ => none)
  | _, _ => none
noncomputable def cDGet (T2 : List Nat) (f : M (Nat × List Nat)) (fk : M Rv) : M Rv := bnd f fun r => bnd fk (dGet1 T2 r)
theorem not_in {T : List Nat} {j : Nat} (h : ¬ T.contains j = true) : j ∉ T := fun z => h (List.contains_iff_mem.mpr z)
noncomputable def isDk : Option Tr → Bool
  | some (.dk _) => true
  | some (.dt _) => true
  | _ => false
noncomputable def dGet2 (T2 : List Nat) (r : Nat × List Nat) (y x : Rv) : M Rv := fun ρ => if T2.contains r.1 then none else match y, x, treeAt ρ r with
  | .d d, .d u, some t => (match dictAt t d with
    | some z => some (.ok (.d (z.getD u)) ρ)
    | none => none)
  | _, _, _ => none
noncomputable def cDGet2 (T2 : List Nat) (f : M (Nat × List Nat)) (fk fx : M Rv) : M Rv := bnd f fun r => fun ρ => if isDk (treeAt ρ r) then (bnd fk fun y => bnd fx (dGet2 T2 r y)) ρ else none
noncomputable def nNew (t : Tr) : M Tr := ret t
end
section
variable {κ : Type} [DecidableEq κ]
noncomputable def dats : List (κ × Tr) → Option (List (κ × PyData))
  | [] => some []
  | (k, .dat d) :: ts => (dats ts).map ((k, d) :: ·)
  | _ :: _ => none
noncomputable def toT (ds : List (κ × PyData)) : List (κ × Tr) := ds.map fun p => (p.1, .dat p.2)
noncomputable def putP (ds : List (κ × PyData)) (k : κ) (d : PyData) : List (κ × PyData) :=
  if (ds.any fun kv => decide (kv.1 = k)) = true then ds.map (fun kv => if kv.1 = k then (kv.1, d) else kv) else ds ++ [(k, d)]
end
noncomputable def dPut1 (T2 : List Nat) (d : PyData) (r : Nat × List Nat) (y : Rv) : MS := fun ρ => if T2.contains r.1 || !modeOk ρ r.1 then none else match y, treeAt ρ r with
  | .d kd, some (.dk kvs) => (match keyD kd, dats kvs with
    | some k, some ds => if small (ds.length + 1) then some (.nx (putAt ρ r (.dk (toT (putP ds k d))))) else none
    | _, _ => none)
  | .d kd, some (.dt kvs) => (match keyT kd, dats kvs with
    | some k, some ds => if small (ds.length + 1) then some (.nx (putAt ρ r (.dt (toT (putP ds k d))))) else none
    | _, _ => none)
  | _, _ => none
noncomputable def sDPut (T2 : List Nat) (fe : M Rv) (f : M (Nat × List Nat)) (fk : M Rv) : MS := sE fe fun x => match x with
  | .d d => sE f fun r => sE fk (dPut1 T2 d r)
  | .o _ => fun _ => none
section
variable {X : Cx} {T1 T2 T3 T4 : List Nat} {W : WV} {fe fk : M Rv} {fp1 : M (Nat × List Nat)} {i o e : Expr} {pos pos' : Pos}
end
end VL

end

section
set_option Elab.async false
set_option linter.all false
set_option maxRecDepth 100000
namespace VL
open PySem PySem.Spec PyProof.Rows L2 PySem.W
section
variable {X : Cx} {K : Fg}
theorem each_reads {pins : List (Addr × Obj)} {σ : Sg} {H : Hp} {s : Shared} (I : L2.Inv X pins σ H s) : ∀ {bs : List (V × PyData)} {us : List Value}, (∀ b ∈ bs, Dp X.K H b.1 b.2) → Vals (bs.map (·.1)) us → EachIs (fun v (b : V × PyData) => ∃ as, Reads s.heap v b.2 as) us bs
  | [], us, _, r => by cases r; exact .nil
  | b :: bs, us, h, r => by
    cases r with
    | cons r t => exact .cons (Dp.reads I _ _ _ (h b List.mem_cons_self) r) (each_reads I (fun c hc => h c (List.mem_cons_of_mem _ hc)) t)
end
end VL

end

section
set_option Elab.async false
set_option linter.all false
set_option maxRecDepth 100000
namespace VL
open PySem PySem.Spec PyProof.Rows L2
noncomputable def ZSt (z TI TO i1 i2 l1 l2 : Addr) (xs ys : Array Value) (S : Addr) (i : Nat) (h : Heap) : Prop :=
  IsPair h TI (.ref i1) (.ref i2) ∧ h.IsListIter i1 l1 i ∧ h.IsListIter i2 l2 i ∧ h.IsList l1 xs ∧ h.IsList l2 ys ∧
    ((IsZip h z TI TO .none ∧ ∃ a b, IsPair h TO a b) ∨ ∃ T f oT, IsZipHeld h z TI TO T f ∧ h.get? T = some oT ∧ T ≠ z ∧ T ≠ i1 ∧ T ≠ i2 ∧ T ≠ S)
structure ZAp (z TI TO i1 i2 l1 l2 S : Addr) : Prop where
  sz : S ≠ z
  sTI : S ≠ TI
  sTO : S ≠ TO
  s1 : S ≠ i1
  s2 : S ≠ i2
  sl1 : S ≠ l1
  sl2 : S ≠ l2
theorem ZSt.frame {z TI TO i1 i2 l1 l2 S : Addr} {xs ys : Array Value} {i : Nat} {h h' : Heap} (D : ZAp z TI TO i1 i2 l1 l2 S) (st : ZSt z TI TO i1 i2 l1 l2 xs ys S i h) (k : ∀ b o, b ≠ S → h.get? b = some o → h'.get? b = some o) : ZSt z TI TO i1 i2 l1 l2 xs ys S i h' := by
  obtain ⟨a1, a2, a3, a4, a5, a6⟩ := st
  refine ⟨k _ _ D.sTI.symm a1, a2.at fun o e => k _ o D.s1.symm e, a3.at fun o e => k _ o D.s2.symm e, a4.at fun o e => k _ o D.sl1.symm e, a5.at fun o e => k _ o D.sl2.symm e, ?_⟩
  rcases a6 with ⟨hz, a, b, hTO⟩ | ⟨T, f, oT, hz, hT, r1, r2, r3, r4⟩
  · exact .inl ⟨k _ _ D.sz.symm hz, a, b, k _ _ D.sTO.symm hTO⟩
  · exact .inr ⟨T, f, oT, k _ _ D.sz.symm hz, k _ _ r4 hT, r1, r2, r3, r4⟩
section
variable {prog : Program} {w : World} {A : Around} {R : Result → Shared → Prop} {z TI TO i1 i2 l1 l2 S : Addr} {xs ys : Array Value}
variable {s : Shared} {E : Value → Shared → Prop}
end
section
variable {X : Cx}
theorem vals_get : ∀ {vs : List V} {us : List Value} {j : Nat} {u : Value}, Vals vs us → us[j]? = some u → ∃ v, vs[j]? = some v ∧ RelV v u
  | _, _, _, _, .nil, e => by simp at e
  | _, _, 0, _, .cons r _, e => by simp at e; subst e; exact ⟨_, rfl, r⟩
  | _, _, j + 1, _, .cons _ t, e => by
    obtain ⟨v, h1, h2⟩ := vals_get (j := j) t (by simpa using e)
    exact ⟨v, by simpa using h1, h2⟩
end
end VL

end

section
set_option Elab.async false
set_option linter.all false
set_option maxRecDepth 100000
namespace VL
open PySem PySem.Spec PyProof.Rows L2
section
variable {X : Cx} {T T1 T2 T3 T4 T5 : List Nat} {W : WV} {K : Fg}
noncomputable def rRepR : R2 := fun x y H Q => ∃ l k xs, x = .ref l ∧ y = .int k ∧ Rd H l (.lst xs) ∧ -(2 ^ 63) ≤ k ∧ k < 2 ^ 63 ∧ xs.length * k.toNat ≤ sizeLine ∧
  ∀ p, H p = none → Q (.ref p) (upd H p (.lst (List.replicate k.toNat xs).flatten))
theorem op_repR : OpR X (binaryOp .Mult) rRepR := by
  intro pins s σ H x y v u Q I rx ry h
  obtain ⟨l, k, xs, rfl, rfl, hH, h1, h2, hz, q⟩ := h
  cases rx
  obtain ⟨t, rfl⟩ := ry
  obtain ⟨z, its, n, r, hl, e⟩ := lstR I hH
  have hlen : its.toArray.size * k.toNat ≤ sizeLine := by rw [List.size_toArray, ← hl]; exact hz
  have hcap : ¬ its.toArray.size * k.toNat > (2 ^ 63 - 1) / 8 := by
    have : (sizeLine : Nat) ≤ (2 ^ 63 - 1) / 8 := by decide
    omega
  have hfit : ¬ (!Builtin.List.listFitsIndex k) = true := by
    rw [fitsIndex_both h1 h2]
    exact Bool.false_ne_true
  have hlong : ¬ Builtin.List.listTooLong (its.toArray.size * k.toNat) = true := by
    rw [notLongL hlen]
    exact Bool.false_ne_true
  have hnew : List.foldl (fun x1 x2 => x1 ++ x2) #[] (List.replicate (if its.toArray.isEmpty = true then 0 else k.toNat) its.toArray) = (List.replicate k.toNat its).flatten.toArray := by
    have f0 : ∀ m : Nat, List.foldl (fun x1 x2 => x1 ++ x2) #[] (List.replicate m its.toArray) = (List.replicate m its).flatten.toArray := fun m => by
      have := foldl_rep its m []
      rw [List.nil_append] at this
      exact this
    rw [f0]
    cases its with
    | nil => simp
    | cons a r' => rw [if_neg (by simp)]
  refine wpAny_binaryOp_repeat_ref (T := "list") (U := "int") (by decide) ⟨_, e, rfl⟩ (fun s' => typeIs_int s' k t) noFill_list_mul F.fills_int_mul F.slot_int_rmul repeat_list F.slot_int_index.lookup
    (call_meets F.slot_int_rmul (typeIs_int s k t) F.entry_int_rmul (F.args_int_rmul_2 _ _) (int___rmul___int_list k t l its.toArray n)
      ⟨e, rfl, ⟨_, e, rfl⟩, call_meets F.slot_list_mul ⟨_, e, rfl⟩ F.entry_list_mul (F.args_list_mul_2 _ _) (AutoListH.list___mul___list_int_3 l its.toArray n k t hfit hcap hlong) ⟨e, ?_⟩⟩)
  rw [hnew]
  exact ⟨.ref _, _, I.lnew (t' := s.toks) (r.rep k.toNat) (by rw [PyProof.Rows.lm_len_rep_flat, Nat.mul_comm]; exact hz), rfl, q _ I.fresh⟩
noncomputable def repL (ds : List PyData) (k : Int) : List PyData := (List.replicate k.toNat ds).flatten
noncomputable def repOk (ds : List PyData) (k : Int) : Bool := decide (-(2 ^ 63) ≤ k ∧ k < 2 ^ 63) && small (ds.length * k.toNat)
noncomputable def repD : PyData → PyData → Option PyData
  | .list ds, .int k => if repOk ds k then some (.list (repL ds k)) else none
  | _, _ => none
theorem ok_repD : OpOk K rRepR repD := by
  intro F H x y dx dy z Q s hx hy e k
  unfold repD at e
  split at e
  · rename_i ds n
    split at e
    · rename_i hz
      cases e
      unfold repOk at hz
      rw [Bool.and_eq_true] at hz
      have hk := of_decide_eq_true hz.1
      obtain ⟨a, vs, rfl, h1, h2⟩ := hx.list s
      cases hy.int
      refine ⟨a, n, vs, rfl, rfl, h1, hk.1, hk.2, by rw [dqAll_len h2]; exact small_iff.mp hz.2, fun p np => ?_⟩
      exact k _ _ _ (.new _ s np) (.lst (.inl upd_same) (dqAll_mono (same_upd (s.free np)) _ _ (rep_all h2 n.toNat)))
    · cases e
  · cases e
variable {fa fb : M Rv} {a b : Expr} {pos : Pos}
theorem ve_rep (ha : VE X T1 W a fa) (hb : VE X T2 W b fb) : VE X (T1 ++ T2) W (.BinOp a .Mult b pos) (cBin repD fa fb) := ve_bin op_repR ok_repD ha hb
noncomputable def rep1 (x y : Rv) : M Tr := fun ρ => match derS ρ x, derS ρ y with
  | some (.list ds), some (.int k) => if repOk ds k then some (.ok (.lst ((repL ds k).map .dat)) ρ) else none
  | _, _ => none
noncomputable def nRep (fa fb : M Rv) : M Tr := bnd fa fun x => bnd fb fun y => rep1 x y
variable {fp1 : M (Nat × List Nat)} {fs : M (List Rv)} {o i e : Expr} {apos cpos : Pos}
variable {tpos : Pos} {fi fe : M Rv}
noncomputable def zipP (ds es : List PyData) : List PyData := (ds.zip es).map fun p => .tuple [p.1, p.2]
noncomputable def lzip1 (rs : List Rv) : M Rv := fun ρ => match rs with
  | [x, y] => (match derS ρ x, derS ρ y with
    | some (.list ds), some (.list es) => if ds.length = es.length then some (.ok (.d (.list (zipP ds es))) ρ) else none
    | _, _ => none)
  | _ => none
noncomputable def cListZip (fs : M (List Rv)) : M Rv := bnd fs lzip1
variable {e2 : Expr} {p p' pos' : Pos}
noncomputable def tupled : PyData → Bool
  | .tuple (_ :: _) => true
  | _ => false
noncomputable def untupled : PyData → Bool
  | .tuple _ => false
  | .none => false
  | _ => true
noncomputable def sortOk (ds : List PyData) : Bool := ds.all (fun d => ds.all (fun e => PySem.W.alike d e)) && (ds.all tupled || ds.all untupled) && ds.all (fun d => decide (d.depth ≤ 60)) && ds.all PyData.canLay0
noncomputable def sortL (ds : List PyData) : List PyData := ds.mergeSort (PySem.W.dataLe false id)
noncomputable def sortedD : List PyData → Option PyData
  | [.list ds] => if sortOk ds then some (.list (sortL ds)) else none
  | _ => none
theorem dqAll_zip {F : Hp} : ∀ {vs : List V} {ds : List PyData}, DqAll K F vs ds → ∀ b ∈ vs.zip ds, Dq K F b.1 b.2
  | _, _, .nil, b, h => by simp at h
  | _, _, .cons h t, b, hb => by
    rcases List.mem_cons.mp (show b ∈ (_, _) :: _ from hb) with e | hb
    · subst e; exact h
    · exact dqAll_zip t b hb
end
end VL

end

section
set_option Elab.async false
set_option linter.all false
set_option maxRecDepth 100000
namespace VL
open PySem PySem.Spec PyProof.Rows L2
section
variable {X : Cx} {T T1 T2 T3 : List Nat} {W : WV} {pos : Pos}
noncomputable def iOwn (i : Nat) : M (List PyData) := fun ρ => match ρ[i]? with
  | some (.own _ (.lst ts)) => (match flat ts with
    | some ds => some (.ok ds ρ)
    | none => none)
  | _ => none
end
section
variable {X : Cx} {T : List Nat} {W : WV} {K : Fg} {fs : M (List Rv)} {e e2 : Expr} {p p' pos pos' : Pos}
noncomputable def nzip1 (rs : List Rv) : M Tr := fun ρ => match rs with
  | [x, y] => (match derS ρ x, derS ρ y with
    | some (.list ds), some (.list es) => if ds.length = es.length then some (.ok (.lst ((zipP ds es).map .dat)) ρ) else none
    | _, _ => none)
  | _ => none
noncomputable def nListZip (fs : M (List Rv)) : M Tr := bnd fs nzip1
noncomputable def cat1 (x y : Rv) : M Tr := fun ρ => match derS ρ x, derS ρ y with
  | some (.list as), some (.list bs) => if small (as.length + bs.length) then some (.ok (.lst ((as ++ bs).map .dat)) ρ) else none
  | _, _ => none
noncomputable def nCat (fa fb : M Rv) : M Tr := bnd fa fun x => bnd fb fun y => cat1 x y
variable {T1 T2 : List Nat} {fa fb : M Rv} {a b : Expr}
end
end VL

end

section
set_option Elab.async false
set_option linter.all false
set_option maxRecDepth 100000
namespace VL
open PySem PySem.Spec PyProof.Rows L2
section
variable {X : Cx} {T T1 T2 T3 : List Nat} {W : WV} {K : Fg} {pos : Pos}
theorem estep_upd {F H F2 H2 : Hp} {σ : Sg} {ρ ρ2 : Rho} {fp fp2 : FP} {p : Addr} {o : HO} (E : EnvOk K F H σ ρ fp) (s : EStep K T F H σ ρ fp F2 H2 ρ2 fp2) (np : H p = none) (nO : ¬ Owns fp2 p) (nF : F2 p = none) {o2 : HO} (h2 : H2 p = some o2) (hn : ∀ ps, o2 ≠ .tbl ps := by exact fun _ z => nomatch z) : EStep K T F H σ ρ fp F2 (upd H2 p o) ρ2 fp2 := by
  have ne : ∀ i b, b ∈ fp i → b ≠ p := fun i b hb z => (E.there ⟨i, hb⟩).1 (by rw [z]; exact np)
  have ne2 : ∀ i b, b ∈ fp2 i → b ≠ p := fun i b hb z => nO ⟨i, by rw [← z]; exact hb⟩
  have E2 := s.env
  refine ⟨⟨⟨fun b u e => ?_, E2.len, fun i sl h => ?_, E2.nil, E2.nd, E2.ap, E2.tb.upd fun ps z => hn ps (Option.some.inj (h2.symm.trans z)), E2.al' (fun _ _ _ h => ⟨h, rfl⟩) fun i _ _ h => ⟨h, rfl, fun b hb => upd_ne (ne2 i b hb)⟩⟩, s.st.fr, s.st.nf, fun b hb => ?_, fun b u e n nt => ?_, s.st.own, s.st.pin, fun i t h => ?_⟩, s.ko, fun i hi => ?_⟩
  · rw [upd_ne fun z => by rw [z, nF] at e; cases e]
    exact E2.sub b u e
  · have q := E2.sl i sl h
    cases sl with
    | no => trivial
    | al _ _ => trivial
    | val d => exact q
    | own m t =>
      obtain ⟨u, e1, e2⟩ := q
      exact ⟨u, e1, e2.move (Same.refl _) fun b hb => ⟨upd_ne (ne2 i b hb), (e2.mem b hb).2⟩⟩
  · by_cases z : b = p
    · rw [z]; exact np
    · rw [upd_ne z] at hb; exact s.st.dom b hb
  · rw [upd_ne fun z => by rw [z, np] at e; cases e]
    exact s.st.frame b u e n nt
  · obtain ⟨a1, a2, a3, a4⟩ := s.st.lock i t h
    exact ⟨a1, a2, a3, fun b hb => by rw [upd_ne (ne i b hb)]; exact a4 b hb⟩
  · obtain ⟨a1, a2, a3⟩ := s.un i hi
    exact ⟨a1, a2, fun b hb => by rw [upd_ne (ne i b hb)]; exact a3 b hb⟩
noncomputable def mkDT (x y : Rv) : M Tr := fun ρ => match x, y with
  | .d kd, .d d => (match keyT kd with
    | some ks => some (.ok (.dt [(ks, .dat d)]) ρ)
    | none => none)
  | _, _ => none
noncomputable def nDT (fk fv : M Rv) : M Tr := bnd fk fun x => bnd fv fun y => mkDT x y
variable {x : Str} {e : Expr} {fs : M (List Rv)} {apos cpos xpos : Pos}
noncomputable def call1T (f : Fn) (t : Tr) : M Tr := fun ρ => match f [.own .free t] with
  | some (.ret r, _) => some (.ok r ρ)
  | _ => none
noncomputable def nCallT (f : Fn) (g : M Tr) : M Tr := bnd g (call1T f)
variable {k : Nat} {f : Addr} {fd : FuncData} {ps : List Str} {F : Fn} {p : Pos} {fn : M Tr}
end
end VL

end

section
set_option Elab.async false
set_option linter.all false
set_option maxRecDepth 100000
namespace VL
open PySem PySem.Spec PyProof.Rows L2
section
variable {X : Cx} {T T1 T2 : List Nat} {W : WV} {K : Fg} {pos : Pos}
noncomputable def intKeys : List (Key × Tr) → Option (List Int)
  | [] => some []
  | (.inl i, _) :: r => (intKeys r).map (i :: ·)
  | _ :: _ => none
noncomputable def sortI (ks : List Int) : List Int := ks.mergeSort fun a b => decide (a ≤ b)
theorem sortI_uniq {ys ks : List Int} (h1 : ys.Perm ks) (h2 : ys.Pairwise (· ≤ ·)) : ys = sortI ks := by
  have p : (sortI ks).Pairwise (· ≤ ·) := by
    have := List.pairwise_mergeSort (le := fun a b : Int => decide (a ≤ b)) (fun a b c h h' => by simp at h h' ⊢; omega) (fun a b => by simp; omega) ks
    exact this.imp fun h => of_decide_eq_true h
  exact List.Perm.eq_of_pairwise (fun a b _ _ h h' => Int.le_antisymm h h') h2 p (h1.trans (List.mergeSort_perm _ _).symm)
noncomputable def cSortDI (f : M (Nat × List Nat)) : M Rv := bnd f fun r => fun ρ => match treeAt ρ r with
  | some (.dk kvs) => (match intKeys kvs with
    | some ks => some (.ok (.d (.list ((sortI ks).map .int))) ρ)
    | none => none)
  | _ => none
theorem dq_ints {F : Hp} : ∀ {ns : List Int}, DqAll K F (ns.map V.int) (ns.map .int)
  | [] => .nil
  | n :: ns => .cons (.int n) dq_ints
variable {e : Expr} {x : Str} {p : Pos} {fp1 : M (Nat × List Nat)}
end
end VL

end

section
set_option Elab.async false
set_option linter.all false
set_option maxRecDepth 100000
namespace VL
open PySem PySem.Spec PyProof.Rows L2
theorem mode_nb {ρ : Rho} {i : Nat} {m : Md} {t : Tr} (h : modeOk ρ i = true) (e : ρ[i]? = some (.own m t)) : plainSl (.own m t) = true := by
  unfold modeOk at h
  rw [e] at h
  cases m with
  | lock => cases h
  | bor _ => cases h
  | free => rfl
  | pin => rfl
theorem al_set2 {K : Fg} {F H H' : Hp} {σ : Sg} {ρ : Rho} {fp : FP} {i : Nat} {s : Sl} (E : EnvOk K F H σ ρ fp) (hi : i < ρ.length) (hp : plainSl s = true) (hH : ∀ k, k ≠ i → ∀ b ∈ fp k, H' b = H b) : AlOk H' σ (ρ.set i s) := E.al' (fun j k p h => by
    by_cases hji : i = j
    · subst hji
      rw [List.getElem?_set_self hi] at h
      cases h
      cases hp
    · rw [List.getElem?_set_ne hji] at h
      exact ⟨h, rfl⟩) fun k p t h => by
    by_cases hji : i = k
    · subst hji
      rw [List.getElem?_set_self hi] at h
      cases h
      cases hp
    · rw [List.getElem?_set_ne hji] at h
      exact ⟨h, rfl, hH k (Ne.symm hji)⟩
theorem KT.upd {H : Hp} {d b : Addr} {o : HO} (h : KT (L2.upd H d o) b) (h1 : ∀ ks : List Key, o ≠ .tup (ks.map kV)) (h2 : ∀ ps, o ≠ .tbl ps) : KT H b := by
  unfold KT at h ⊢
  by_cases e : b = d
  · subst e
    rw [upd_same] at h
    rcases h with ⟨ks, h⟩ | ⟨ps, h⟩
    · exact absurd (Option.some.inj h) (h1 ks)
    · exact absurd (Option.some.inj h) (h2 ps)
  · rw [upd_ne e] at h
    exact h
section
variable {X : Cx} {T T1 T2 : List Nat} {W : WV} {K : Fg} {pos : Pos} {e : Expr}
noncomputable def lockS (ρ : Rho) (i : Nat) : Option Rho := if modeOk ρ i then (match ρ[i]? with
  | some (.own _ (.dk ts)) => (match dats ts with
    | some ds => some (ρ.set i (.own .lock (.fk ds)))
    | none => none)
  | _ => none) else none
noncomputable def nLock (i : Nat) (f : M Tr) : M Tr := fun ρ => match lockS ρ i with
  | some ρ1 => (match f ρ1 with
    | some (.ok t ρ2) => (match ρ[i]? with
      | some s => some (.ok t (ρ2.set i s))
      | none => none)
    | _ => none)
  | none => none
noncomputable def keyPD : Key → PyData
  | .inl i => .int i
  | .inr z => .str z
noncomputable def iKeyF (i : Nat) : M (List PyData) := fun ρ => match ρ[i]? with
  | some (.own _ (.fk ds)) => some (.ok (ds.map fun kv => keyPD kv.1) ρ)
  | _ => none
end
end VL

end

section
set_option Elab.async false
set_option linter.all false
set_option maxRecDepth 100000
namespace VL
open PySem PySem.Spec PyProof.Rows L2
section
variable {X : Cx} {T T1 T2 : List Nat} {W : WV} {K : Fg} {pos : Pos}
noncomputable def nnone : PyData → Bool
  | .none => false
  | _ => true
noncomputable def maxOk (ds : List PyData) : Bool := ds.all (fun d => ds.all fun e => PySem.W.alike d e) && ds.all nnone && decide (PyData.depthAll ds ≤ 60) && ds.all PyData.canLay0
noncomputable def maxTD : List PyData → Option PyData
  | [.list (d :: ds)] => if maxOk (d :: ds) then some (PySem.W.maxD d ds) else none
  | _ => none
variable {fa fb : M Rv} {a b : Expr} {rest : List Expr}
end
end VL

end

section
set_option Elab.async false
set_option linter.all false
set_option maxRecDepth 100000
namespace VL
open PySem PySem.Spec PyProof.Rows L2
structure NewsOk (K : Fg) (H : Hp) (fp : FP) (F' H' : Hp) (fp' : FP) (vs : List V) (ts : List Tr) (A : List Addr) : Prop where
  ok : TrsOk K F' H' vs ts A
  nd : A.Nodup
  new : ∀ b ∈ A, H b = none ∨ Owns fp b
  out : ∀ b ∈ A, ¬ Owns fp' b
theorem step_off {K : Fg} {F H F1 H1 : Hp} {σ σ1 : Sg} {ρ ρ1 : Rho} {fp fp1 : FP} (s : Step K F H σ ρ fp F1 H1 σ1 ρ1 fp1) {A : List Addr} (hA : ∀ b ∈ A, H b ≠ none ∧ F b = none) (hK : ∀ b ∈ A, ¬ KT H b) (ho : ∀ b ∈ A, ¬ Owns fp b) :
    (∀ b ∈ A, H1 b = H b ∧ F1 b = none) ∧ ∀ b ∈ A, ¬ Owns fp1 b := by
  refine ⟨fun b hb => ⟨?_, ?_⟩, fun b hb h => ?_⟩
  · cases q : H b with
    | none => exact absurd q (hA b hb).1
    | some o => exact s.frame b o q (ho b hb) fun ps z => hK b hb (.inr ⟨ps, z ▸ q⟩)
  · cases q : F1 b with
    | none => rfl
    | some o =>
      rcases s.nf b (hA b hb).2 (by rw [q]; exact fun z => nomatch z) with z | z | z
      · exact absurd z (hA b hb).1
      · exact absurd z (ho b hb)
      · exact absurd z (hK b hb)
  · rcases s.own b h with z | z
    · exact ho b hb z
    · exact (hA b hb).1 z
theorem NewOk.keep {K : Fg} {H0 F H F1 H1 : Hp} {σ σ1 : Sg} {ρ ρ1 : Rho} {fp0 fp fp1 : FP} {v : V} {t : Tr} {A : List Addr} (n : NewOk K H0 fp0 F H fp v t A) (s : Step K F H σ ρ fp F1 H1 σ1 ρ1 fp1) : NewOk K H0 fp0 F1 H1 fp1 v t A := by
  obtain ⟨h1, h2⟩ := step_off s n.ok.mem n.ok.nkt n.out
  exact ⟨n.ok.move s.fr h1, n.nd, n.new, h2⟩
theorem NewsOk.keep {K : Fg} {H0 F H F1 H1 : Hp} {σ σ1 : Sg} {ρ ρ1 : Rho} {fp0 fp fp1 : FP} {v : List V} {t : List Tr} {A : List Addr} (n : NewsOk K H0 fp0 F H fp v t A) (s : Step K F H σ ρ fp F1 H1 σ1 ρ1 fp1) : NewsOk K H0 fp0 F1 H1 fp1 v t A := by
  obtain ⟨h1, h2⟩ := step_off s n.ok.mem n.ok.nkt n.out
  exact ⟨n.ok.move s.fr h1, n.nd, n.new, h2⟩
noncomputable def rlNs (K : Fg) : Rl K (List Tr) (List V) := ⟨fun H fp F' H' fp' _ _ v t => ∃ A, NewsOk K H fp F' H' fp' v t A, fun e h => by
  obtain ⟨A, h⟩ := h
  refine ⟨A, h.ok, h.nd, fun b hb => ?_, h.out⟩
  rcases h.new b hb with z | z
  · exact .inl (e.st.dom b z)
  · exact (e.st.own b z).symm⟩
noncomputable abbrev tVNs (K : Fg) (T : List Nat) (W : WV) (f : M (List Tr)) : TA := fun σ H Q => TVg T W (rlNs K) f σ H Q
noncomputable def VNs (X : Cx) (T : List Nat) (W : WV) (es : List Expr) (f : M (List Tr)) : Prop := PA X es (tVNs X.K T W f)
noncomputable def tNilM : M (List Tr) := ret []
noncomputable def tConsM (f : M Tr) (g : M (List Tr)) : M (List Tr) := bnd f fun x => bnd g fun xs => ret (x :: xs)
section
variable {X : Cx} {T T1 T2 T3 : List Nat} {W : WV} {K : Fg} {fn : M Tr} {fs : M (List Tr)} {e : Expr} {es : List Expr} {pos : Pos}
theorem vns_nil : VNs X [] W [] tNilM := pa_imp pa_nil fun σ H Q ⟨F, ρ, fp, o, E, e, P⟩ => by
  cases ok_inj e
  exact P _ H F fp (.refl E) ⟨[], .nil, List.nodup_nil, (fun _ h => nomatch h), (fun _ h => nomatch h)⟩
theorem news_cons {H F1 H1 F2 H2 : Hp} {σ : Sg} {ρ1 ρ2 : Rho} {fp fp1 fp2 : FP} {v : V} {vs : List V} {t : Tr} {ts : List Tr} {A B : List Addr} (n1 : NewOk K H fp F1 H1 fp1 v t A) (s2 : EStep K T F1 H1 σ ρ1 fp1 F2 H2 ρ2 fp2) (n2 : NewsOk K H1 fp1 F2 H2 fp2 vs ts B)
    {F : Hp} {ρ : Rho} (s1 : EStep K T1 F H σ ρ fp F1 H1 ρ1 fp1) : NewsOk K H fp F2 H2 fp2 (v :: vs) (t :: ts) (A ++ B) := by
  have k1 := n1.keep s2.st
  refine ⟨.cons k1.ok n2.ok, ?_, fun b hb => ?_, fun b hb => ?_⟩
  · rw [List.nodup_append]
    refine ⟨k1.nd, n2.nd, fun a ha b hb e => ?_⟩
    subst e
    rcases n2.new a hb with z | z
    · exact (n1.ok.mem a ha).1 z
    · exact n1.out a ha z
  · rcases List.mem_append.mp hb with z | z
    · exact k1.new b z
    · rcases n2.new b z with q | q
      · exact .inl (s1.st.dom b q)
      · exact (s1.st.own b q).symm
  · rcases List.mem_append.mp hb with z | z
    · exact k1.out b z
    · exact n2.out b z
theorem vns_cons (ha : VN X T1 W e fn) (hb : VNs X T2 W es fs) (hs : starEach (e :: es) X.env = (false, eval e X.env) :: starEach es X.env := by rfl) : VNs X (T1 ++ T2) W (e :: es) (tConsM fn fs) :=
  pa_imp (pa_cons ha hb hs) fun σ H Q ⟨F, ρ, fp, o, E, e, P⟩ => by
    unfold tConsM bnd at e
    cases h1 : fn ρ with
    | none => rw [h1] at e; cases e
    | some r =>
      rw [h1] at e
      cases r with
      | ex c ρ1 =>
        cases e
        exact ⟨F, ρ, fp, _, E, h1, fun H1 F1 fp1 st => P H1 F1 fp1 (st.sub fun i hi => List.mem_append_left _ hi)⟩
      | ok t ρ1 =>
        refine ⟨F, ρ, fp, _, E, h1, fun v H1 F1 fp1 s1 ⟨A, n1⟩ => ?_⟩
        simp only at e
        cases h2 : fs ρ1 with
        | none => rw [h2] at e; cases e
        | some r2 =>
          rw [h2] at e
          cases r2 with
          | ex c ρ2 =>
            cases e
            exact ⟨F1, ρ1, fp1, _, s1.env, h2, fun H2 F2 fp2 s2 => P H2 F2 fp2 ((s1.sub fun i hi => List.mem_append_left _ hi).trans (s2.sub fun i hi => List.mem_append_right _ hi))⟩
          | ok ts ρ2 =>
            cases ok_inj e
            exact ⟨F1, ρ1, fp1, _, s1.env, h2, fun vs H2 F2 fp2 s2 ⟨B, n2⟩ => P _ H2 F2 fp2 ((s1.sub fun i hi => List.mem_append_left _ hi).trans (s2.sub fun i hi => List.mem_append_right _ hi)) ⟨_, news_cons n1 s2 n2 s1⟩⟩
theorem news_lay {F H F1 H1 : Hp} {σ : Sg} {ρ ρ1 : Rho} {fp fp1 : FP} {vs : List V} {ts : List Tr} {A : List Addr} {p : Addr} {o : HO} (n : NewsOk K H fp F1 H1 fp1 vs ts A) (s1 : EStep K T F H σ ρ fp F1 H1 ρ1 fp1) (np : H1 p = none) :
    EStep K T F H σ ρ fp F1 (upd H1 p o) ρ1 fp1 ∧ TrsOk K F1 (upd H1 p o) vs ts A ∧ (p :: A).Nodup ∧ (∀ b ∈ p :: A, H b = none ∨ Owns fp b) ∧ ∀ b ∈ p :: A, ¬ Owns fp1 b := by
  have g := Grow.lay o s1.env.sub np
  have hne : ∀ b ∈ A, b ≠ p := fun b hb z => (n.ok.mem b hb).1 (by rw [z]; exact np)
  refine ⟨s1.trans (g.step s1.env), n.ok.move (Same.refl _) fun b hb => ⟨upd_ne (hne b hb), (n.ok.mem b hb).2⟩, List.nodup_cons.mpr ⟨fun h => hne p h rfl, n.nd⟩, fun b hb => ?_, fun b hb h => ?_⟩
  · rcases List.mem_cons.mp hb with z | z
    · rw [z]; exact .inl (s1.st.dom p np)
    · exact n.new b z
  · rcases List.mem_cons.mp hb with z | z
    · rw [z] at h; exact (s1.env.there h).1 np
    · exact n.out b z h
noncomputable def isNode : Tr → Bool
  | .tup _ => true
  | .lst _ => true
  | .dk _ => true
  | .dt _ => true
  | .ins _ _ => true
  | _ => false
theorem node_ref {F H : Hp} {v : V} {t : Tr} {A : List Addr} (h : TrOk K F H v t A) (hn : isNode t = true) : ∃ a, v = .ref a := by
  cases h <;> first | exact ⟨_, rfl⟩ | cases hn
theorem nodes_no {F H : Hp} : ∀ {vs : List V} {ts : List Tr} {A : List Addr}, TrsOk K F H vs ts A → ts.any isNode = true → ∀ ks : List Key, vs ≠ ks.map kV
  | _, _, _, .nil, h, _ => by cases h
  | _, _, _, .cons q r, h, ks => by
    intro e
    rw [List.any_cons, Bool.or_eq_true] at h
    cases ks with
    | nil => cases e
    | cons k ks =>
      rw [List.map_cons] at e
      injection e with e1 e2
      rcases h with h | h
      · obtain ⟨a, rfl⟩ := node_ref q h
        cases k <;> cases e1
      · exact nodes_no r h ks e2
noncomputable def nTupT (fs : M (List Tr)) : M Tr := bnd fs fun ts => fun ρ => if small ts.length && ts.any isNode then some (.ok (.tup ts) ρ) else none
noncomputable def nLstT (fs : M (List Tr)) : M Tr := bnd fs fun ts => fun ρ => if small ts.length then some (.ok (.lst ts) ρ) else none
theorem vn_tupT {x1} (h : VNs X T W es fs) : VN X T W (.Tuple es x1 pos) (nTupT fs) := pe_imp (pe_tup h) fun σ H Q ⟨F, ρ, fp, o, E, e, P⟩ => by
  unfold nTupT bnd at e
  cases h1 : fs ρ with
  | none => rw [h1] at e; cases e
  | some r =>
    rw [h1] at e
    cases r with
    | ex c ρ1 => cases e; exact ⟨F, ρ, fp, _, E, h1, fun H1 F1 fp1 st => P H1 F1 fp1 st⟩
    | ok ts ρ1 =>
      simp only at e
      split at e
      · rename_i hz
        rw [Bool.and_eq_true] at hz
        cases ok_inj e
        refine ⟨F, ρ, fp, _, E, h1, fun vs H1 F1 fp1 s1 ⟨A, n⟩ => ⟨by rw [n.ok.len]; exact of_decide_eq_true hz.1, fun p np => ?_⟩⟩
        obtain ⟨s2, q1, q2, q3, q4⟩ := news_lay (o := .tup vs) n s1 np
        exact P _ _ _ fp1 s2 ⟨p :: A, .tup upd_same ⟨s1.env.sub.free np, nodes_no q1 hz.2⟩ q1, q2, q3, q4⟩
      · cases e
theorem set_stepW {F H F1 H1 : Hp} {σ σ1 : Sg} {ρ ρ1 ρ2 : Rho} {fp fp1 : FP} {i : Nat} {v : V} {s : Sl} {A : List Addr} (s1 : Step K F H σ ρ fp F1 H1 σ1 ρ1 fp1) (hset : setSl ρ1 i s = some ρ2) (hs : SlOk K F1 H1 (some v) A s) (hn : A.Nodup)
    (ho : ∀ b ∈ A, ¬ Owns fp1 b) (ha : isOwn s = false → A = []) (hw : ∀ b ∈ A, H b = none ∨ Owns fp b) (hp : plainSl s = true := by rfl) : Step K F H σ ρ fp F1 H1 (σ1.set i (some v)) ρ2 (fset fp1 i A) := by
  obtain ⟨rfl, hi, np, nl⟩ := setSl_some hset
  refine ⟨set_env s1.env hi hs hn ho ha hp, s1.fr, s1.nf, s1.dom, s1.frame, fun b hb => ?_, fun j m t hj hm => ?_, fun j t hj => ?_⟩
  · rcases hb.fset with z | z
    · exact (hw b z).symm
    · exact s1.own b z
  · obtain ⟨e1, m', t', h1, k1⟩ := s1.pin j m t hj hm
    have hji : i ≠ j := fun z => by subst z; rw [np m' t' h1] at k1; cases k1
    exact ⟨by rw [sg_set_ne hji]; exact e1, m', t', by rw [List.getElem?_set_ne hji]; exact h1, k1⟩
  · obtain ⟨e1, h1, f1, g1⟩ := s1.lock j t hj
    have hji : i ≠ j := fun z => by subst z; exact nl t h1
    refine ⟨by rw [sg_set_ne hji]; exact e1, by rw [List.getElem?_set_ne hji]; exact h1, ?_, g1⟩
    unfold fset
    rw [if_neg (Ne.symm hji)]
    exact f1
end
end VL

end

section
set_option Elab.async false
set_option linter.all false
set_option maxRecDepth 100000
namespace VL
open PySem PySem.Spec PyProof.Rows L2
section
variable {P : Program} {w : World} {A : Around} {E : Value → Shared → Prop} {s : Shared}
end
section
variable {X : Cx} {T T1 T2 : List Nat} {W : WV} {K : Fg} {pos : Pos}
end
end VL

end

section
set_option Elab.async false
set_option linter.all false
set_option maxRecDepth 100000
set_option maxHeartbeats 2000000
namespace VLH
open PySem PySem.Spec PyProof.Rows L2 HotX L2H
section
variable {X : Cx}
theorem lc_coreH {pins : List (Addr × Obj)} {s : Shared} {σ : L2.St} {H : Hp} {Q : VK} {elt tg iter : Expr} {ifs : List Expr} {scope : Scope} {own : List (Str × Nat)} {pos pos' : Pos} {wi : TI} {g : TG} {tt : TT} {te : TE} {use : Option (Value → Sem Unit)} {Qf : Value → Shared → Prop}
    (hc : HotC X) (hN : X.N.Nodup) (I : Inv X pins σ H s) (hi : PIH X tg iter wi) (ok : BlkOk X.N X.env.scope scope own)
    (hg : ∀ (s : Shared) (H : Hp) (C : Addr) (cl : List (Str × Addr)) (fp : List Addr), PG (X.blk s H scope (compEnvC scope cl C X.env) fp) tg g) (ht : ∀ (s : Shared) (H : Hp) (C : Addr) (cl : List (Str × Addr)) (fp : List Addr), PTs (X.blk s H scope (compEnvC scope cl C X.env) fp) ifs tt)
    (he : ∀ (s : Shared) (H : Hp) (C : Addr) (cl : List (Str × Addr)) (fp : List Addr), PE (X.blk s H scope (compEnvC scope cl C X.env) fp) elt te) (hs : ∀ x, foldedSetIterable iter X.env x = pure x)
    (h : tLc wi g tt te (own.map (·.2)) σ H Q)
    (hRR : ∀ D C s' m H', Inv X pins σ H' s' → Q (.ref D) H' → s'.heap.Ns C m → FpOk X pins H' C → compPost (model X.prog X.w) X.A X.xe use Qf (.ref D) C (.ok .next) s') :
    wpAny (model X.prog X.w) X.A (comprehension (.ListComp elt [⟨tg, iter, ifs, 0⟩] scope pos) scope X.env pos' (newList []) false (eval iter X.env) use) Qf X.xe s := by
  obtain ⟨p0, hot0, hp0⟩ := hc
  have hfree : ∀ y ∈ scope.names, y.2 = .free → ∃ c, X.env.cells.lookup y.1 = some c := fun y hy e => (ok.free y hy e).elim (fun k => I.ok.has _ (.inl k)) fun k => I.ok.has _ (.inr k)
  refine wpAny_comprehension_free (use := use) rfl hs (closure_ok hfree) ok.kind (fun y hy e => by rw [ok.uniq y hy, e]) (thn (hi.run pins s σ H _ I h) fun xv s1 hx => thn hx fun itv s2 h2 => ?_)
  obtain ⟨it, fp, tn, J, H2, e, I2, T, st2, f2, q⟩ := h2
  subst e
  refine wpAny_newObj_type (newEnv_comp ?_) (by show 0 ≤ sizeLine; decide)
  generalize hD : s2.heap.objs.size = D
  have hDn : H2 D = none := I2.hok.fresh (Nat.le_of_eq hD)
  obtain ⟨W, ⟨m0, w0⟩, turn⟩ := q D hDn
  generalize hs3 : ({ s2 with heap := s2.heap.push { cls := .type "list", data := .seq ([] : List Value).toArray } } : Shared) = s3
  have h3 : s3.heap = s2.heap.push { cls := .type "list", data := .seq ([] : List Value).toArray } := by rw [← hs3]
  have I3 : Inv X pins σ (upd H2 D (.lst [])) s3 := by
    rw [← hs3]
    refine I2.laid (t' := s2.toks) (fun b o e => Heap.get?_push_of_some _ e) (Nat.le_of_eq hD) ⟨Nat.zero_le _, [], 0, .nil, ?_⟩
    rw [← hD]
    exact Heap.get?_push_size _ rfl
  have f3 : ∀ b ∈ fp, FpOk X pins (upd H2 D (.lst [])) b ∧ b < s3.heap.objs.size := fun b hb => by
    obtain ⟨o, e, _⟩ := T.obj _ _ st2 b hb
    have hlt := Heap.lt_size e
    refine ⟨⟨?_, (f2 b hb).2⟩, by rw [h3, Heap.size_push]; exact Nat.lt_succ_of_lt hlt⟩
    rw [upd_ne (by rw [← hD]; exact Nat.ne_of_lt hlt)]
    exact (f2 b hb).1
  have st3 : tn 0 s3.heap := T.keep _ _ _ st2 fun b _ o e => by rw [h3]; exact Heap.get?_push_of_some _ e
  have I4 := block_start I3 ok hN f3
  have pg := hg s3 (upd H2 D (.lst [])) s3.heap.objs.size (cellsFrom (s3.heap.objs.size + 1) scope.names (cloFrom X.env.cells scope.names [])) fp
  have pt := ht s3 (upd H2 D (.lst [])) s3.heap.objs.size (cellsFrom (s3.heap.objs.size + 1) scope.names (cloFrom X.env.cells scope.names [])) fp
  have pe := he s3 (upd H2 D (.lst [])) s3.heap.objs.size (cellsFrom (s3.heap.objs.size + 1) scope.names (cloFrom X.env.cells scope.names [])) fp
  show codeAny _ _ (.compStart (.ListComp elt [⟨tg, iter, ifs, 0⟩] scope pos) 0 (.ref it) (.ref D) (compEnvC scope (cellsFrom (s3.heap.objs.size + 1) scope.names (cloFrom X.env.cells scope.names [])) s3.heap.objs.size X.env)) (compPost (model X.prog X.w) X.A X.xe use Qf (.ref D) s3.heap.objs.size) { s3 with heap := pushCells (s3.heap.push { cls := .type "dict", data := .dict #[] }) scope.names }
  have nfp : ∀ b ∈ fp, (upd H2 D (.lst [])) b = none := fun b hb => (f3 b hb).1.1
  generalize hce : compEnvC scope (cellsFrom (s3.heap.objs.size + 1) scope.names (cloFrom X.env.cells scope.names [])) s3.heap.objs.size X.env = ce at I4 pg pt pe ⊢
  have cL : ce.locals = s3.heap.objs.size := by subst hce; rfl
  generalize hH3 : upd H2 D (.lst []) = H3 at I3 I4 pg pt pe w0 nfp f3
  generalize hs4 : ({ s3 with heap := pushCells (s3.heap.push { cls := .type "dict", data := .dict #[] }) scope.names } : Shared) = s4 at I4 ⊢
  have k34 : ∀ b o, s3.heap.get? b = some o → s4.heap.get? b = some o := fun b o e => by rw [← hs4]; exact pushCells_keeps _ _ _ _ (Heap.get?_push_of_some _ e)
  have st4 : tn 0 s4.heap := T.keep _ _ _ st3 fun b _ o e => k34 b o e
  -- the error that is handled stays in sight
  have P0 := I3.pin p0 (List.mem_append_left _ hp0)
  have I4p : Inv (X.blk s3 H3 scope ce fp) [p0] (wipe σ (own.map (·.2))) H3 s4 := I4.pins_of fun p hp => by
    have ep : p = p0 := by simpa using hp
    subst ep
    refine ⟨k34 _ _ P0.1, P0.2.1, ?_, fun hm => ?_, P0.2.2.2.2⟩
    · show p.1 ≠ ce.locals
      rw [cL]
      exact Nat.ne_of_lt (Heap.lt_size P0.1)
    · exact (List.mem_cons.mp (I3.stkSub p.1 hm)).elim P0.2.2.1 P0.2.2.2.1
  have stat : ∀ {σ' : L2.St} {H' : Hp} {s' : Shared}, Inv (X.blk s3 H3 scope ce fp) [p0] σ' H' s' → (∀ b ∈ fp, H' b = none) → ∀ b ∈ fp, FpOk (X.blk s3 H3 scope ce fp) [p0] H' b := fun {σ' H' s'} I' hn b hb =>
    ⟨hn b hb, (I'.ok.exf b hb).1, I'.ok.exfs b hb, .inl hb, fun x c e => (I'.ok.exf b hb).2 x c e, fun p hp => by
      have ep : p = p0 := by simpa using (show p ∈ ([] : List (Addr × Obj)) ++ [p0] from hp)
      rw [ep]
      exact (f3 b hb).1.2.2.2.2.2 p0 (List.mem_append_left _ hp0)⟩
  have statT : ∀ {σ' : L2.St} {H' : Hp} {s' : Shared}, Inv (X.blk s3 H3 scope ce fp) [p0] σ' H' s' → (∀ b ∈ fp, H' b = none) → ∀ b ∈ fp, FpOk ((X.blk s3 H3 scope ce fp).tr ([] ++ [p0]) (fun _ _ => False)) [] H' b := fun {σ' H' s'} I' hn b hb => by
    obtain ⟨a1, a2, a3, a4, a5, a6⟩ := stat I' hn b hb
    exact ⟨a1, a2, a3, a4, a5, fun p hp => a6 p (by rw [List.append_nil] at hp; exact hp)⟩
  have hotT : HotC ((X.blk s3 H3 scope ce fp).tr ([] ++ [p0]) (fun _ _ => False)) := ⟨p0, hot0, List.mem_append_right _ List.mem_cons_self⟩
  have loop : codeAny (model X.prog X.w) X.A (.compLoop (.ListComp elt [⟨tg, iter, ifs, 0⟩] scope pos) 0 (.ref it) (.ref D) ce) (compPost (model X.prog X.w) X.A X.xe use Qf (.ref D) s3.heap.objs.size) s4 := by
    refine compLoop_any (fun n s' => ∃ i H', Inv (X.blk s3 H3 scope ce fp) [p0] (wipe σ (own.map (·.2))) H' s' ∧ tn i s'.heap ∧ (∀ b ∈ fp, H' b = none) ∧ W i n H') ?_ m0 ⟨0, H3, I4p, st4, nfp, w0⟩
    rintro n s5 ⟨i, H5, I5, st5, n5, w5⟩
    rcases turn i n H5 w5 with ⟨stop, qq⟩ | ⟨go, Nx, hNx, step⟩
    · have td := T.done ((X.blk s3 H3 scope ce fp).tr ([] ++ [p0]) (fun _ _ => False)) rfl rfl rfl hotT i [] s5 _ H5 (fun _ _ => False) (I5.toTry _) (statT I5 n5) st5 stop
      refine thnF td fun r s6 ⟨hr, I6'⟩ => ?_
      subst hr
      have I6 : Inv (X.blk s3 H3 scope ce fp) [p0] (wipe σ (own.map (·.2))) H5 s6 := I6'.ofTry I5.ok
      have I7 : Inv X pins σ H5 s6 := I3.call' (ch := fp) I6.os I6.base I6.hok I6.bare fun b hb => ⟨(f3 b hb).1.2.2.2.1, (f3 b hb).1.2.1, (f3 b hb).1.2.2.2.2.1, (f3 b hb).1.2.2.2.2.2⟩
      have nC : H5 s3.heap.objs.size = none := by
        have z : H5 ce.locals = none := I6.free
        rw [cL] at z
        exact z
      obtain ⟨m, hn, _⟩ := I6.loc
      have hn : s6.heap.Ns ce.locals m := hn
      rw [cL] at hn
      exact hRR D s3.heap.objs.size s6 m H5 I7 qq hn (I3.fpOk (Nat.le_refl _) nC)
    · have ti := T.item ((X.blk s3 H3 scope ce fp).tr ([] ++ [p0]) (fun _ _ => False)) rfl rfl rfl hotT i [] s5 _ H5 (fun _ _ => False) (I5.toTry _) (statT I5 n5) st5 go
      refine thnF ti fun r s6 ⟨u, hr, h6⟩ => ?_
      subst hr
      refine thnF h6 fun _ s7 ⟨x, H7, I7', r7, y7, st7, n7⟩ => ?_
      have I7 : Inv (X.blk s3 H3 scope ce fp) [p0] (wipe σ (own.map (·.2))) H7 s7 := I7'.ofTry I5.ok
      have J7 := I7.pinned (stat I7 n7) (T.obj _ _ st7)
      refine thnF (pg.run _ s7 _ H7 x u _ J7 r7 (step x H7 y7)) fun _ s8 ⟨σ8, H8, I8, hw8, q8⟩ => ?_
      refine thnF (pt.run _ s8 σ8 H8 _ I8 q8) fun b s9 ⟨H9, I9, q9⟩ => ?_
      have fin : ∀ {s' : Shared} {H' : Hp}, Inv (X.blk s3 H3 scope ce fp) ([p0] ++ pinsAt fp s7.heap) σ8 H' s' → Nx H' → ∃ m, m < n ∧ ∃ i H', Inv (X.blk s3 H3 scope ce fp) [p0] (wipe σ (own.map (·.2))) H' s' ∧ tn i s'.heap ∧ (∀ b ∈ fp, H' b = none) ∧ W i m H' := fun {s' H'} I' nx => by
        obtain ⟨m', hm, w'⟩ := hNx H' nx
        have pin' : ∀ b ∈ fp, ∀ o, s7.heap.get? b = some o → s'.heap.get? b = some o ∧ H' b = none := fun b hb o e =>
          let z := I'.pin (b, o) (List.mem_append_right _ (List.mem_append_right _ (mem_pinsAt hb e)))
          ⟨z.1, z.2.1⟩
        have hl : (wipe σ (own.map (·.2))).length = σ8.length := by rw [← hw8, wipe_length]
        refine ⟨m', hm, i + 1, H', (I'.unpinned (pins := [p0])).weak hl (fun j v e => ?_), T.keep _ _ _ st7 fun b hb o e => (pin' b hb o e).1, fun b hb => ?_, w'⟩
        · rw [← hw8] at e
          exact (wipe_some e).1
        · obtain ⟨o, e, _⟩ := T.obj _ _ st7 b hb
          exact (pin' b hb o e).2
      cases b with
      | false =>
        simp only [Bool.false_eq_true, if_false] at q9 ⊢
        exact fin I9 q9
      | true =>
        simp only [if_true] at q9 ⊢
        refine thnF (pe.run _ s9 σ8 H9 _ I9 q9) fun z s10 ⟨yv, H10, I10, r10, acc, hD10, hz10, nx⟩ => ?_
        exact L2.app_ok (X := X.blk s3 H3 scope ce fp) I10 hD10 hz10 r10 fun s11 I11 => fin I11 nx
  exact codeAny_compStart_list loop (T.self X.A 0 _ _ _ st4 loop)
theorem pe_lcH {elt tg iter : Expr} {ifs : List Expr} {scope : Scope} {own : List (Str × Nat)} {pos : Pos} {wi : TI} {g : TG} {tt : TT} {te : TE} (hc : HotC X) (hN : X.N.Nodup) (hi : PIH X tg iter wi) (ok : BlkOk X.N X.env.scope scope own)
    (hg : ∀ (s : Shared) (H : Hp) (C : Addr) (cl : List (Str × Addr)) (fp : List Addr), PG (X.blk s H scope (compEnvC scope cl C X.env) fp) tg g) (ht : ∀ (s : Shared) (H : Hp) (C : Addr) (cl : List (Str × Addr)) (fp : List Addr), PTs (X.blk s H scope (compEnvC scope cl C X.env) fp) ifs tt)
    (he : ∀ (s : Shared) (H : Hp) (C : Addr) (cl : List (Str × Addr)) (fp : List Addr), PE (X.blk s H scope (compEnvC scope cl C X.env) fp) elt te) (hs : ∀ x, foldedSetIterable iter X.env x = pure x := by intro _; rfl) :
    PE X (.ListComp elt [⟨tg, iter, ifs, 0⟩] scope pos) (tLc wi g tt te (own.map (·.2))) := by
  refine ⟨fun pins s σ H Q I h => ?_⟩
  rw [eval_ListComp]
  refine lc_coreH hc hN I hi ok hg ht he hs h fun D C s' m H' I' q hn f => ⟨m, hn, fun h'' sb => ?_⟩
  obtain ⟨f0, f1, f2, f3, f4, f5⟩ := f
  exact ⟨.ref D, H', I'.turned (t' := s'.toks) (fun b o hb e => (sb.2 b hb).trans e) f0 f1 f3 f4 f5, rfl, q⟩
theorem call_isP {a D : Addr} {oe : Obj} (C : ExcC X.K D) (hz : Zc (.ref D) none oe) (hf : ∃ vs, oe.data = .fields vs) (hp : (a, oe) ∈ X.pn) : CallR X (.builtin "isinstance") (rIsE X.K D a) := by
  intro pins s σ H xs us Q I r h
  obtain ⟨c, cv, b, rfl, hcv, e, q⟩ := h
  cases r with
  | cons rx rr =>
    cases rr with
    | cons rt rr =>
      cases rr
      cases rx
      have ec := hcv _ rt
      subst ec
      obtain ⟨hget, _⟩ := I.pin (a, oe) (List.mem_append_left _ hp)
      obtain ⟨vs, hv⟩ := hf
      have J : PySem.W.InstAt s.heap a oe D none := by
        obtain ⟨oc, od, oda, osl⟩ := oe
        obtain ⟨h1, h2⟩ := hz
        dsimp only at h1 h2 hv
        subst h1 h2 hv
        exact ⟨hget, rfl, rfl, trivial⟩
      exact PySem.W.kia_one (PySem.W.handS_kitx_exc C.hg C.hk C.hs C.hd C.ha C.hn C.ht C.hm) I.kIn J e (fun z => nomatch z) fun tk => ⟨.bl b, H, I.kept (t' := tk) fun _ _ z => z, rfl, q⟩
end
structure FnE (P : Program) (w : World) (K : PySem.W.Frag) (mg : Str → Option Value) (base : Heap) (k : Nat) (f : Addr) (fd : FuncData) (ps : List Str) (sp : Addr → Addr → Sp) : Prop where
  len : ∀ a D vs H Q E, sp a D vs H Q E → vs.length = ps.length
  run : ∀ (A : Around) (outer : List Env) (s : Shared) (H : Hp) (args : Args) (us : List Value) (vs : List V) (Q : VK) (E : XK) (p : Addr × Obj) (D : Addr), RoomH k A → Hot1 A p → PinOk outer H s p → Zc (.ref D) none p.2 → Env0 P w K mg base A outer s H → BindsTo s fd args (ps.zip us) → Vals vs us → sp p.1 D vs H Q E →
    codeAny (model P w) A (.call (.ref f) args) (CR CX0 outer P w H s Q E) s
theorem fn_ofE {P : Program} {w : World} {K : PySem.W.Frag} {mg : Str → Option Value} {base : Heap} {k : Nat} {f : Addr} {fd : FuncData} {x qual : Str} {st : Stmt} {N ps : List Str} {sp : Addr → Addr → Sp} (F : Fun K x qual st f fd) (S : FnScope N ps (defScope st))
    (len : ∀ a D vs H Q E, sp a D vs H Q E → vs.length = ps.length)
    (hbody : ∀ (cdv : Value) (A : Around) (outer : List Env) (s : Shared) (H : Hp) (vs : List V) (Q : VK) (E : XK) (p : Addr × Obj) (D : Addr), Hot1 A p → Zc (.ref D) none p.2 → RoomH k (A.deeper (envOfC qual (defScope st) s.heap.objs.size f cdv)) → sp p.1 D vs H Q E →
      ∃ t, PSs (cxH CX0 P w K mg base N qual (defScope st) f cdv A outer s H E p) (defBody st) t ∧ t { nx := fun _ H' => Q .non H', rt := Q } (L2.start N vs) H) :
    FnE P w K mg base (k + 1) f fd ps sp := by
  obtain ⟨oc, od, kV, doc, pm, an, cdv, ct, osl, rfl, lk, hcd⟩ := F.ex
  refine ⟨len, fun A outer s H args us vs Q E p D hr hot hpin hz e0 hb r hsp => ?_⟩
  have hl := len _ _ _ _ _ _ hsp
  have KX : K.In s.heap := e0.mod.kin.keeps fun b o e => (e0.bs b o e).1
  have lim : s.heap.NoLimit := e0.mod.nolimit.keeps fun b o e => (e0.bs b o e).1
  have hkind : ∀ y ∈ ps.zip us, (defScope st).names.lookup y.1 = some .local ∨ ((defScope st).names.lookup y.1 = some .cell ∧ ((cellsFrom (s.heap.objs.size + 1) (defScope st).names []).lookup y.1).isSome = true) := fun ⟨n, v⟩ hy =>
    (S.par n (List.of_mem_zip hy).1).elim .inl fun q => .inr ⟨q, PySem.W.cellsFrom_some _ _ _ (.inl q)⟩
  refine codeAny_call_function hr.depth (KX _ _ lk) rfl S.co S.gen rfl (PySem.W.codeRec_of KX hcd) (hb _ _ _ _ ?_)
  refine wpAny_newFunctionEnv_cells S.kind hkind fun env he s1 x => ?_
  subst he
  refine ⟨lim.keeps x.toInCall.keep, codeAny_func ?_⟩
  obtain ⟨t, ht, hq⟩ := hbody cdv A outer s H vs Q E p D hot hz (hr.deeper _) hsp
  have I : Inv (cxH CX0 P w K mg base N qual (defScope st) f cdv A outer s H E p) [] (L2.start N vs) H s1 := inv_startH S hpin e0 hl r x
  refine wpAny_mono (ht.run [] s1 (L2.start N vs) H _ I hq) (fun fl s' hs => ?_) fun e s' hs => hs
  have fin : ∀ {σ' : L2.St} {H' : Hp} {v : V} {u : Value}, Inv (cxH CX0 P w K mg base N qual (defScope st) f cdv A outer s H E p) [] σ' H' s' → RelV v u → Q v H' → CE outer P w H s Q u s' :=
    fun {σ' H' v u} J rv q => ⟨v, H', J.os, J.bare, J.base, J.hok, rv, q⟩
  cases fl with
  | ret u =>
    obtain ⟨v, σ', H', J, rv, q⟩ := hs
    exact fin J rv q
  | next =>
    obtain ⟨σ', H', J, q⟩ := hs
    exact fin (v := V.non) (u := Value.none) J rfl q
  | brk =>
    obtain ⟨_, _, _, q⟩ := hs
    exact False.elim q
  | cont =>
    obtain ⟨_, _, _, q⟩ := hs
    exact False.elim q
theorem pe_callE {X : Cx} {k : Nat} {f a D : Addr} {oe : Obj} {fd : FuncData} {ps : List Str} {sp : Addr → Addr → Sp} {E : XK} {x : Str} {q pos : Pos} {e : Expr} {t : TA} (F : FnE X.prog X.w X.K X.mg X.base k f fd ps sp) (hr : RoomH k X.A) (hot : Hot1 X.A (a, oe)) (hp : (a, oe) ∈ X.pn) (hz : Zc (.ref D) none oe)
    (hg : Gl X x) (hm : X.mg x = some (.ref f)) (hk : PySem.W.keepIn X.K (.ref f) = true) (hb : Binds X.K fd ps [])
    (ha : PA X [e] t) (hdb : (x == ("__debug__" : Str)) = false := by decide) (he : starEach [e] X.env = (false, eval e X.env) :: starEach [] X.env := by rfl) (hpl : (backTo pos (starEach [] X.env)).any (·.1) = false := by rfl) :
    PE X (.Call (.Name x q) [e] [] pos) (fun σ H Q => t σ H fun vs H1 => sp a D vs H1 Q E) := by
  refine ⟨fun pins s σ H Q I h => ?_⟩
  refine wpAny_Call_Name_kw (ld_glob I hg hm ?_ hdb)
  refine PySem.W.callWith_K (h₀ := X.base) I.ok.mod.kin hk (thn (ha.run pos pins s σ H _ I h) fun us s1 ⟨vs, H1, I1, r, h1⟩ => ⟨I1.kIn, ?_⟩) he hpl
  have hl : us.length = ps.length := by rw [← r.length]; exact F.len _ _ _ _ _ _ h1
  have b := hb s1 us I1.kIn (by rw [List.append_nil]; exact hl)
  rw [List.append_nil] at b
  have P1 := I1.pin (a, oe) (List.mem_append_left _ hp)
  have hpin : PinOk X.stack H1 s1 (a, oe) := ⟨P1.1, P1.2.1, fun hm => (List.mem_cons.mp (I1.stkSub a hm)).elim P1.2.2.1 P1.2.2.2.1, P1.2.2.2.2⟩
  refine wpAny_call (codeAny_mono (F.run X.A X.stack s1 H1 ⟨us, []⟩ us vs Q E (a, oe) D hr hot hpin hz I1.env0 b r h1) fun r s' hq => ?_)
  cases r with
  | error e => exact hq.elim
  | ok fl =>
    cases fl with
    | ret u => exact I1.after hq
    | next => exact False.elim hq
    | brk => exact False.elim hq
    | cont => exact False.elim hq
end VLH

end

section
set_option Elab.async false
set_option linter.all false
set_option maxRecDepth 100000
set_option maxHeartbeats 2000000
namespace VL
open PySem PySem.Spec PyProof.Rows L2
noncomputable def WxR (mg : Str → Option Value) : WX0 := fun c E H => ∀ cls, mg c = some cls → E cls none H
noncomputable def toWX (mg : Str → Option Value) (W : WV) : WX := fun cls d σ H => d = none ∧ ∃ c, mg c = some cls ∧ W c σ H
noncomputable def TakesV (X : Cx) (W : WV) : Prop := L2N.Takes X (toWX X.mg W)
theorem takesV0 {X : Cx} : TakesV X W0 := fun u s' ⟨_, _, _, _, _, _, _, _, _, _, _, _, _, _, _, _, h⟩ => by
  obtain ⟨_, _, _, h⟩ := h
  exact h.elim
theorem takesN0 {X : Cx} : L2N.Takes X (fun _ _ _ _ => False) := fun u s' ⟨_, _, _, _, _, _, _, _, _, _, _, _, _, _, _, _, h⟩ => h.elim
section
variable {P : Program} {w : World} {K : PySem.W.Frag} {mg : Str → Option Value} {base : Heap}
theorem fn_okR {x qual : Str} {st : Stmt} {f : Addr} {fd : FuncData} {N ps : List Str} {k : Nat} {g : MS} (F : Fun K x qual st f fd) (S : FnScope N ps (defScope st))
    (hb : ∀ (cdv : Value) (A : Around) (outer : List Env) (s : Shared) (H : Hp) (E : XK), Room k (A.deeper (envOfC qual (defScope st) s.heap.objs.size f cdv)) →
      TakesV (cxOf (L2N.CX P w) P w K mg base N qual (defScope st) f cdv A outer s H E) (fun c _ H' => WxR mg c E H') →
      PassesOwn (model P w) (cxOf (L2N.CX P w) P w K mg base N qual (defScope st) f cdv A outer s H E).A (cxOf (L2N.CX P w) P w K mg base N qual (defScope st) f cdv A outer s H E).env (cxOf (L2N.CX P w) P w K mg base N qual (defScope st) f cdv A outer s H E).xe →
      VSs (cxOf (L2N.CX P w) P w K mg base N qual (defScope st) f cdv A outer s H E) (fun c _ H' => WxR mg c E H') (defBody st) g) :
    FnOk P w K mg base (L2N.CX P w) (k + 1) f fd ps (spV K (WxR mg) ps.length (runF N.length g)) := by
  obtain ⟨oc, od, kV, doc, pm, an, cdv, ct, osl, rfl, lk, hcd⟩ := F.ex
  refine fn_of lk hcd S (fun vs H Q E h => h.1) fun A outer s H vs Q E hr hsp => ?_
  have tk : L2N.Takes (cxOf (L2N.CX P w) P w K mg base N qual (defScope st) f cdv A outer s H E) (fun cls d _ H => E cls d H) := L2N.takes_of rfl rfl rfl rfl
  exact ⟨_, hb cdv A outer s H E hr (tk.imp fun cls d σ H' ⟨hd, c, hc, h⟩ => by subst hd; exact h cls hc) (L2.passes_of (K := fun e s'' => L2N.CX P w outer H s E e s'') (E₁ := fun e' s'' => L2N.CX P w outer H s E e' s'') rfl), run_ok (CX := L2N.CX P w) (x := x) (qual := qual) (f := f) (sc := defScope st) (cdv := cdv) (A := A) (outer := outer) (s := s) hsp⟩
end
noncomputable def callR (Ts : List Nat) (m : Nat) (f : Fn) (rs : List Rv) : M Tr := fun ρ => match argSls ρ rs with
  | some args => if decide (rs.length = m) && (oneEach rs && allIn Ts rs) then (match f args with
    | some (.ret t, outs) => if backOk args (mrg args outs) then some (.ok t (wb ρ rs (mrg args outs))) else none
    | some (.exc c, outs) => if backOk args (mrg args outs) then some (.ex c (wb ρ rs (mrg args outs))) else none
    | none => none) else none
  | none => none
noncomputable def nCallR (Ts : List Nat) (m : Nat) (f : Fn) (fs : M (List Rv)) : M Tr := bnd fs (callR Ts m f)
section
variable {X : Cx} {T : List Nat} {W : WV} {k m : Nat} {f : Addr} {fd : FuncData} {ps : List Str} {F : Fn} {x : Str} {p pos : Pos} {e : Expr} {es : List Expr} {fs : M (List Rv)} {Ts : List Nat}
theorem callR_sp {F1 H1 : Hp} {σ : Sg} {ρ1 : Rho} {fp1 : FP} {rs : List Rv} {vs : List V} {o : Er Tr} {Q : VK} (s1 : EnvOk X.K F1 H1 σ ρ1 fp1) (r1 : RvsOk X.K F1 σ ρ1 vs rs) (e1 : callR Ts m F rs ρ1 = some o) (P1 : Pst (T ++ Ts) W (rlN X.K) F1 H1 σ ρ1 fp1 Q o) :
    spV X.K (WxR X.mg) m F vs H1 Q (WE (toWX X.mg W) σ) := by
  unfold callR at e1
  split at e1
  · rename_i args hargs
    split at e1
    · rename_i ho
      rw [Bool.and_eq_true, Bool.and_eq_true] at ho
      have hl : vs.length = m := by rw [rvs_len r1]; exact of_decide_eq_true ho.1
      split at e1
      · rename_i t outs hf
        split at e1
        · rename_i hbk
          cases ok_inj e1
          refine ⟨hl, F1, args, fpArgs rs fp1, _, outs, args_env s1 r1 hargs ho.2.1, hf, fun v A H' F' fp' st n => ?_⟩
          have s2 := call_step (Ts := Ts) s1 r1 hargs ho.2.1 ho.2.2 st fun k m t h => backOk_get hbk h
          exact P1 v H' F' _ (s2.sub fun i hi => List.mem_append_right _ hi) ⟨A, call_new s1 ho.2.1 n⟩
        · cases e1
      · rename_i c outs hf
        split at e1
        · rename_i hbk
          cases (Option.some.inj e1)
          refine ⟨hl, F1, args, fpArgs rs fp1, _, outs, args_env s1 r1 hargs ho.2.1, hf, fun H' F' fp' st cls hcls => ?_⟩
          have s2 := call_step (Ts := Ts) s1 r1 hargs ho.2.1 ho.2.2 st fun k m t h => backOk_get hbk h
          exact ⟨rfl, c, hcls, P1 H' F' _ (s2.sub fun i hi => List.mem_append_right _ hi)⟩
        · cases e1
      · cases e1
    · cases e1
  · cases e1
theorem vn_callR (G : FnOk X.prog X.w X.K X.mg X.base (L2N.CX X.prog X.w) k f fd ps (spV X.K (WxR X.mg) m F)) (hr : Room k X.A) (tk : TakesV X W) (hg : Gl X x) (hm : X.mg x = some (.ref f)) (hk : PySem.W.keepIn X.K (.ref f) = true) (hb : Binds X.K fd ps [])
    (ha : VA X T W (e :: es) fs) (hdb : (x == ("__debug__" : Str)) = false := by decide) (he : starEach (e :: es) X.env = (false, eval e X.env) :: starEach es X.env := by rfl) (hpl : (backTo pos (starEach es X.env)).any (·.1) = false := by rfl) :
    VN X (T ++ Ts) W (.Call (.Name x p) (e :: es) [] pos) (nCallR Ts m F fs) :=
  pe_imp (pe_callS G hr hg hm hk hb (fun σ => L2N.passAt tk σ) ha hdb he hpl) fun σ H Q ⟨F0, ρ, fp, o, E, q, P⟩ => by
    refine tv_bnd (T := T) E q P (fun i hi => List.mem_append_left _ hi) fun rs ρ1 vs H1 F1 fp1 s1 r1 e1 P1 => ?_
    exact callR_sp s1.env r1 e1 P1
noncomputable def sRaise (c : Str) : MS := fun ρ => some (.ex c ρ)
noncomputable def excB (K : PySem.W.Frag) (cs : List Addr) (C : Addr) : Bool :=
  PySem.W.excIn K C [.type "ValueError", .type "Exception", .type "BaseException", .type "object"] "ValueError.__new__" && PySem.W.keepIn K (.ref C) &&
  ((PySem.W.subIn K (.ref C) (.type "BaseException") == some true) && (PySem.W.typeIn K (.ref C) == some (.type "type"))) &&
  ((PySem.W.findIn K (.ref C) "__getattribute__" == some (some (.builtin "BaseException.__getattribute__"))) && (PySem.W.findIn K (.ref C) "__getattr__" == some none)) &&
  (PySem.W.hasDictIn K C && (PySem.W.findIn K (.ref C) "__class__" == some (some (.builtin "object.__class__")))) &&
  ((PySem.W.specialIn K (.builtin "object.__class__") "__get__" == some (some (.builtin "getset_descriptor.__get__"))) && (PySem.W.takesIn K (.builtin "object.__class__") == some true)) &&
  ((PySem.W.mroIn K C (.type "object") == some true) && (PySem.W.kitOne K (.ref C) (.type "ValueError") == some true)) &&
  cs.all (fun D => PySem.W.kitOne K (.ref C) (.ref D) == some (C == D))
structure ExcF (K : PySem.W.Frag) (cs : List Addr) (C : Addr) : Prop where
  ex : PySem.W.excIn K C [.type "ValueError", .type "Exception", .type "BaseException", .type "object"] "ValueError.__new__" = true
  kp : PySem.W.keepIn K (.ref C) = true
  sb : PySem.W.subIn K (.ref C) (.type "BaseException") = some true
  ty : PySem.W.typeIn K (.ref C) = some (.type "type")
  c : ExcC K C
  ve : PySem.W.kitOne K (.ref C) (.type "ValueError") = some true
  ds : ∀ D ∈ cs, PySem.W.kitOne K (.ref C) (.ref D) = some (C == D)
theorem excF_of {K : PySem.W.Frag} {cs : List Addr} {C : Addr} (h : excB K cs C = true) : ExcF K cs C := by
  unfold excB at h
  simp only [Bool.and_eq_true, beq_iff_eq, List.all_eq_true] at h
  obtain ⟨⟨⟨⟨⟨⟨⟨h1, h2⟩, h3, h4⟩, h5, h6⟩, h7, h8⟩, h9, h10⟩, h11, h12⟩, h13⟩ := h
  exact ⟨h1, h2, h3, h4, ⟨h5, h6, h3, h7, h8, h9, h10, h11⟩, h12, h13⟩
theorem vs_raise {c m : Str} {j : Nat} {p1 p2 p3 : Pos} {C : Addr} {cs : List Addr} (hc : X.calm = true) (tk : TakesV X W) (F : ExcF X.K cs C) (gC : X.mg x = some (.ref C)) (hg : Gl X x) (hx : x = c) (hdb : (x == ("__debug__" : Str)) = false := by decide) :
    VS X W (.Raise (some (.Call (.Name x p1) [.Constant (.str m) j p2] [] p3)) none pos) (sRaise c) :=
  ps_imp (L2N.ps_raise hc tk (L2N.pmk_own PySem.F.excBase_ValueError F.ex gC F.kp (raises_own F.sb F.ty) hg hdb)) fun D σ H ⟨F0, ρ, fp, o, E, q, P⟩ => by
    cases (Option.some.inj q)
    subst hx
    exact ⟨rfl, x, gC, P σ H F0 fp (.refl E)⟩
noncomputable def strsD : List PyData → Option (List Str)
  | [] => some []
  | .str s :: ds => (strsD ds).map (s :: ·)
  | _ :: _ => none
theorem strs_ok {K : Fg} {F : Hp} : ∀ {vs : List V} {ds : List PyData} {ss : List Str}, DqAll K F vs ds → strsD ds = some ss → vs = ss.map V.str
  | _, _, _, .nil, e => by simp only [strsD] at e; cases e; rfl
  | _, d :: ds, _, .cons h t, e => by
    cases d <;> simp only [strsD] at e <;> try (cases e; done)
    obtain ⟨ss, e1, rfl⟩ := map_some e
    cases h
    rw [strs_ok t e1]
    rfl
noncomputable def join1 (x y : Rv) : M Rv := fun ρ => match derS ρ x, derS ρ y with
  | some (.str a), some (.list ds) => (match strsD ds with
    | some ss => if (ss.map (·.length)).sum + ss.length * a.length ≤ 16777216 then some (.ok (.d (.str (Txt.join a ss))) ρ) else none
    | none => none)
  | _, _ => none
noncomputable def cJoin (f g : M Rv) : M Rv := bnd f fun x => fun ρ => match x with
  | .d (.str a) => bnd g (join1 x) ρ
  | _ => none
theorem ve_join {T1 T2 : List Nat} {o : Expr} {fo fe : M Rv} {apos cpos : Pos} (ho : VE X T1 W o fo) (he : VE X T2 W e fe) (hs : starEach [e] X.env = [(false, eval e X.env)] := by rfl) (hbase : attributeBase o "join" X.env (eval o X.env) = eval o X.env := by rfl) (hline : (apos.endLine == cpos.line) = true := by rfl) :
    VE X (T1 ++ T2) W (.Call (.Attribute o "join" apos) [e] [] cpos) (cJoin fo fe) :=
  pe_imp (pe_join ho he hs hbase hline) fun σ H Q ⟨F, ρ, fp, ou, E, q, P⟩ => by
    refine tv_bnd E q P (fun i hi => List.mem_append_left _ hi) fun x ρ1 v H1 F1 fp1 s1 r1 e1 P1 => ?_
    split at e1
    · rename_i a
      have r1' : Dq X.K F1 v (.str a) := r1
      cases r1'
      refine ⟨⟨a, rfl⟩, ?_⟩
      refine tv_bnd s1.env e1 P1 (fun i hi => List.mem_append_right _ hi) fun y ρ2 w H2 F2 fp2 s2 r2 e2 P2 => ?_
      unfold join1 at e2
      split at e2
      · rename_i a' ds ha hd
        cases ha
        split at e2
        · rename_i ss hss
          split at e2
          · rename_i hz
            cases ok_inj e2
            obtain ⟨b, vs, rfl, h1, h2⟩ := (derS_ok s2.env r2 hd).list s2.env.sub
            have ev := strs_ok h2 hss
            subst ev
            exact ⟨a, b, ss, rfl, rfl, .inl (.inl h1), hz, P2 _ H2 F2 fp2 (.refl s2.env) (.str _)⟩
          · cases e2
        · cases e2
      · cases e2
    · cases e1
noncomputable def cIsE (i : Nat) (a : Addr) (b : Bool) : M Rv := fun ρ => match ρ[i]? with
  | some (.own _ (.raw (.ref a'))) => if a' = a then some (.ok (.d (.bool b)) ρ) else none
  | _ => none
theorem ve_isE (i : Nat) {a D : Addr} {oe : Obj} {y : Str} {cv : Value} {c : V} {b : Bool} {p1 p2 : Pos} (C : ExcC X.K D) (hz : Zc (.ref D) none oe) (hf : ∃ vs, oe.data = .fields vs) (hp : (a, oe) ∈ X.pn) (hk : PySem.W.kitOne X.K (.ref D) cv = some b)
    (hn : X.mg "isinstance" = none) (hgn : Gl X "isinstance") (hy : PE X (.Name y p2) (tC c)) (hcv : ∀ u, RelV c u → u = cv) (hN : X.N[i]? = some x := by rfl) (hv : Vis X.env.scope x := by first | exact Or.inl rfl | exact Or.inr (Or.inl rfl) | exact Or.inr (Or.inr rfl)) (hd : (x == ("__debug__" : Str)) = false := by decide)
    (hcd : (x == ("__classdict__" : Str)) = false := by decide) : VE X [] W (.Call (.Name "isinstance" p) [.Name x p1, .Name y p2] [] pos) (cIsE i a b) :=
  pe_imp (pe_callB (VLH.call_isP C hz hf hp) hgn hn (by decide +kernel) (pa_cons (pe_var hN hv hd hcd) (pa_cons hy pa_nil)) (by decide) (by decide) rfl rfl) fun σ H Q ⟨F, ρ, fp, o, E, q, P⟩ => by
    unfold cIsE at q
    split at q
    · rename_i m a' h
      split at q
      · rename_i ea
        subst ea
        cases ok_inj q
        obtain ⟨u, hu, r⟩ := E.sl i _ h
        generalize fp i = A at r
        cases r
        exact ⟨_, sg_some.mp hu, c, cv, b, rfl, hcv, hk, P _ H F fp (.refl E) (.bl b)⟩
      · cases q
    · cases q
noncomputable def VIH (X : Cx) (T : List Nat) (W : WV) (tg iter : Expr) (f : M (List PyData)) : Prop := ∃ wi, L2H.PIH X tg iter wi ∧ ∀ σ H R F ρ fp o, EnvOk X.K F H σ ρ fp → f ρ = some o →
  (match o with
   | Er.ok xs ρ' => ∀ J G Y H1 F1 fp1, EStep X.K T F H σ ρ fp F1 H1 ρ' fp1 → Walk J xs.length G Y → (∀ F2 H2, Same F1 F2 → Same F2 H2 → G H2) →
      (∀ i F2 H2 x H3, i < xs.length → Same F1 F2 → Same F2 H2 → Y i H2 x H3 → ∃ F3 d, xs[i]? = some d ∧ Grow F2 H2 F3 H3 ∧ Dq X.K F3 x d) → R J H1
   | Er.ex c ρ' => ∀ H1 F1 fp1, EStep X.K T F H σ ρ fp F1 H1 ρ' fp1 → W c σ H1) → wi σ H R
theorem vih_range1 {tg a : Expr} {fs : M (List Rv)} {p : Pos} (hg : Gl X "range") (hm : X.mg "range" = none) (ha : VA X T W [a] fs) (hs : starEach [a] X.env = [(false, eval a X.env)] := by rfl) : VIH X T W tg (.Call (.Name "range" p) [a] [] pos) (iRange1 fs) := by
  refine ⟨_, L2H.pi_range1H hg hm ha hs, fun σ H R F ρ fp o E q P => ?_⟩
  unfold iRange1 bnd at q
  cases hf : fs ρ with
  | none => rw [hf] at q; cases q
  | some r =>
    rw [hf] at q
    cases r with
    | ex c ρ1 => cases q; exact ⟨F, ρ, fp, _, E, hf, fun H1 F1 fp1 s1 => P H1 F1 fp1 s1⟩
    | ok rs ρ1 =>
      simp only at q
      split at q
      · rename_i j
        split at q
        · rename_i hj
          cases q
          refine ⟨F, ρ, fp, _, E, hf, fun vs H1 F1 fp1 s1 r1 => ?_⟩
          cases r1 with
          | cons h t =>
            cases t
            have h : Dq X.K F1 _ (.int j) := h
            cases h
            have w0 := walk_range (lo := 0) (n := j.toNat)
            rw [← rangeD_len 0 j.toNat] at w0
            refine ⟨j, rfl, hj.1, hj.2, P _ _ _ H1 F1 fp1 s1 (by rw [rangeD_len] at w0 ⊢; exact w0) (fun _ _ _ _ => trivial) fun i F2 H2 x H3 hi a b y => ?_⟩
            obtain ⟨rfl, rfl⟩ := y
            rw [rangeD_len] at hi
            exact ⟨F2, _, rangeD_get hi, .refl b, .int _⟩
        · cases q
      · cases q
theorem vn_compH {T1 T2 T3 : List Nat} {elt tg iter : Expr} {ifs : List Expr} {scope : Scope} {own : List (Str × Nat)} {fi : M (List PyData)} {gt : TG} {ws : List Nat} {G : MG} {tt : M Bool} {te : M Rv} (hc : L2H.HotC X) (hN : X.N.Nodup) (hi : VIH X T1 W tg iter fi) (ok : BlkOk X.N X.env.scope scope own)
    (hg : ∀ (s : Shared) (H : Hp) (C : Addr) (cl : List (Str × Addr)) (fp : List Addr), VG (X.blk s H scope (compEnvC scope cl C X.env) fp) tg gt ws G) (hw : ∀ i ∈ ws, i ∈ own.map (·.2))
    (ht : ∀ (s : Shared) (H : Hp) (C : Addr) (cl : List (Str × Addr)) (fp : List Addr), VTs (X.blk s H scope (compEnvC scope cl C X.env) fp) T2 W0 ifs tt)
    (he : ∀ (s : Shared) (H : Hp) (C : Addr) (cl : List (Str × Addr)) (fp : List Addr), VE (X.blk s H scope (compEnvC scope cl C X.env) fp) T3 W0 elt te) (hs : ∀ x, foldedSetIterable iter X.env x = pure x := by intro _; rfl) :
    VN X (T1 ++ (T2 ++ T3)) W (.ListComp elt [⟨tg, iter, ifs, 0⟩] scope pos) (nComp fi (own.map (·.2)) G tt te) := by
  obtain ⟨wi, p1, q1⟩ := hi
  exact pe_imp (VLH.pe_lcH (tt := tVT X.K T2 W0 tt) (te := tV X.K T3 W0 te) hc hN p1 ok (fun s H C cl fp => (hg s H C cl fp).1) ht he hs) fun σ H Q h => tv_comp q1 (hg X.s_0 (fun _ => none) 0 [] []).2 hw h
noncomputable def plusS : Str := ⟨#[43]⟩
noncomputable def spK (K : Fg) (mg : Str → Option Value) (cs : List Str) : Addr → Addr → Sp := fun a D vs H Q _ => vs = [.ref a] ∧ ∃ c ∈ cs, mg c = some (.ref D) ∧ ∃ F, Same F H ∧ TbOk K F H ∧ ∀ F' H', Grow2 K F H F' H' → Q (.str (c ++ plusS)) H'
noncomputable def isNo : Option Sl → Bool
  | some .no => true
  | _ => false
theorem isNo_some {o : Option Sl} (h : isNo o = true) : o = some .no := by
  unfold isNo at h
  split at h
  · rfl
  · cases h
theorem isNo_own {ρ : Rho} {j : Nat} (h : isNo ρ[j]? = true) : noOwn ρ [j] = true := by
  unfold noOwn noOwn
  rw [isNo_some h]
  rfl
theorem isNo_set {ρ : Rho} {j : Nat} (h : isNo ρ[j]? = true) : ρ.set j .no = ρ := by
  have e := isNo_some h
  have hl := (List.getElem?_eq_some_iff.mp e).1
  apply List.ext_getElem?
  intro i
  by_cases hi : j = i
  · subst hi; rw [List.getElem?_set_self hl, e]
  · rw [List.getElem?_set_ne hi]
noncomputable def sTryK (cs : List Str) (j k : Nat) (g : MS) : MS := fun ρ => match g ρ with
  | some (.ex c ρ1) => if c ∈ cs ∧ isNo ρ1[j]? = true then (match setSl ρ1 k (.val (.str (c ++ plusS))) with
    | some ρ2 => if isNo ρ2[j]? then some (.nx ρ2) else none
    | none => none) else none
  | o => o
theorem vs_tryK {n kn xk : Str} {Hc : Addr} {cs : List Str} {j i : Nat} {np pos' p1 p2 p3 p4 p5 : Pos} {body : List Stmt} {g : MS} (hN : X.N.Nodup) (G : VLH.FnE X.prog X.w X.K X.mg X.base k f fd ["e"] (spK X.K X.mg cs)) (hr : Room k X.A) (hmk : X.mg xk = some (.ref f)) (hgk : Gl X xk) (hkk : PySem.W.keepIn X.K (.ref f) = true) (hbk : Binds X.K fd ["e"] [])
    (hgH : Gl X x) (hmH : X.mg x = some (.ref Hc)) (tab : ∀ c ∈ cs, ∃ C, X.mg c = some (.ref C) ∧ PySem.W.exmOne X.K (.ref C) (.ref Hc) = some true)
    (hb : ∀ (W : WV) (pn : List (Addr × Obj)) (xe : Value → Shared → Prop), TakesV (X.tr pn xe) W → PassesOwn (model X.prog X.w) X.A X.env xe → VSs (X.tr pn xe) W body g)
    (hj : X.N[j]? = some n := by rfl) (hi : X.N[i]? = some kn := by rfl) (hln : X.env.kindOf n = some .local := by rfl) (hlk : Loc X.env.scope kn := by first | exact Or.inl rfl | exact Or.inr rfl) (hs : X.stack = X.env :: X.outer := by rfl) (hf : X.env.frame = some X.env.locals := by rfl)
    (hvn : Vis X.env.scope n := by first | exact Or.inl rfl | exact Or.inr (Or.inl rfl) | exact Or.inr (Or.inr rfl)) (hdb : (x == ("__debug__" : Str)) = false := by decide) (hdk : (xk == ("__debug__" : Str)) = false := by decide) (hdn : (n == ("__debug__" : Str)) = false := by decide) (hcn : (n == ("__classdict__" : Str)) = false := by decide)
    (hsw : ∀ a pn, swapsWith (.Call (.Name xk p2) [.Name n p3] [] p4) (some (.Name kn p1)) p5.line (X.suite a pn).env = pure false := by intro _ _; rfl)
    (hlkf : X.fn kn = true ∨ X.env.scope.names.lookup kn = some .local := by first | exact .inl rfl | exact .inr rfl | assumption) :
    VS X W (.Try body [.ExceptHandler (some (.Name x np)) (some n) [.Assign [.Name kn p1] (.Call (.Name xk p2) [.Name n p3] [] p4) p5] pos'] [] [] pos) (sTryK cs j i g) := by
  have hsu : ∀ (a : Addr) (oe : Obj) (cls : Value) (d : Option Addr) (pn : List (Addr × Obj)), L2N.Zn cls d oe → (∃ vs, oe.data = .fields vs) → PSs (X.suite a ((a, oe) :: pn)) [.Assign [.Name kn p1] (.Call (.Name xk p2) [.Name n p3] [] p4) p5]
      (fun D σ H => ∃ Dc, cls = .ref Dc ∧ d = none ∧ (tAsg (fun σ H Q => (tCons (tVar j) tNil) σ H fun vs H1 => spK X.K X.mg cs a Dc vs H1 Q (fun _ _ _ => False)) (gName i)) D σ H) := by
    intro a oe cls d pn hz hfl
    refine ⟨fun pins s σ H D I h => ?_⟩
    obtain ⟨Dc, rfl, rfl, h⟩ := h
    obtain ⟨vs, hvs⟩ := hfl
    have hot : L2H.Hot1 (X.suite a ((a, oe) :: pn)).A (a, oe) := ⟨rfl, vs, hvs, hz.2.2 vs hvs⟩
    exact (pss_one (ps_set (X := X.suite a ((a, oe) :: pn)) (i := i) hN hi hlk (VLH.pe_callE (X := X.suite a ((a, oe) :: pn)) (D := Dc) G ⟨hr.dp, hr.un⟩ hot List.mem_cons_self hz.zc hgk hmk hkk hbk (pa_cons (pe_var hj hvn hdn hcn) pa_nil) hdk) (hsw _ _) hlkf)).run pins s σ H D I h
  refine ps_imp (L2N.ps_try_as (x := x) (c := .ref Hc) (i := j) (tb := fun W' => tS X.K (fun c σ H => ∀ cls, X.mg c = some cls → W' cls none σ H) g) hs hf hN hj hln ⟨hgH, hdb, .inl hmH⟩ takesN0
    (fun W' pn xe tk po => hb _ pn xe (tk.imp fun cls d σ H ⟨hd, c, hc, h⟩ => by subst hd; exact h cls hc) po) hsu) fun D σ H ⟨F0, ρ, fp, o, E, q, P⟩ => ?_
  unfold sTryK at q
  have other : ∀ {o' : Out}, g ρ = some o' → o = o' → (∀ c ρ1, o' ≠ .ex c ρ1) → tS X.K (fun c σ H => ∀ cls, X.mg c = some cls → wAs X.K (.ref Hc) j (fun a cls d => fun D σ H => ∃ Dc, cls = .ref Dc ∧ d = none ∧ (tAsg (fun σ H Q => (tCons (tVar j) tNil) σ H fun vs H1 => spK X.K X.mg cs a Dc vs H1 Q (fun _ _ _ => False)) (gName i)) D σ H) (fun _ _ _ _ => False) D cls none σ H) g D σ H := by
    intro o' hg ho hne
    subst ho
    refine ⟨F0, ρ, fp, o, E, hg, ?_⟩
    cases o with
    | nx ρ' => exact P
    | rt t ρ' => exact P
    | bk ρ' => exact P
    | ct ρ' => exact P
    | ex c ρ' => exact absurd rfl (hne c ρ')
  cases hg : g ρ with
  | none => rw [hg] at q; cases q
  | some o' =>
    rw [hg] at q
    cases o' with
    | nx ρ' => cases q; exact other hg rfl (fun _ _ z => nomatch z)
    | rt t ρ' => cases q; exact other hg rfl (fun _ _ z => nomatch z)
    | bk ρ' => cases q; exact other hg rfl (fun _ _ z => nomatch z)
    | ct ρ' => cases q; exact other hg rfl (fun _ _ z => nomatch z)
    | ex c ρ1 =>
      simp only at q
      split at q
      · rename_i hc
        obtain ⟨hc, hno⟩ := hc
        split at q
        · rename_i ρ2 h2
          split at q
          · rename_i hno2
            cases (Option.some.inj q)
            have e1 := isNo_set hno
            have e2 := isNo_set hno2
            refine ⟨F0, ρ, fp, _, E, hg, fun σ1 H1 F1 fp1 s1 cls hcls => ?_⟩
            obtain ⟨C, hC, hex⟩ := tab c hc
            rw [hC] at hcls
            cases hcls
            refine ⟨true, hex, fun _ a ha => ?_, fun z => by cases z⟩
            have hjl : j < σ1.length := by
              rw [s1.env.len]
              exact (List.getElem?_eq_some_iff.mp (isNo_some hno)).1
            -- growth, then the error's slot, then the word, then the slot again
            have sA : ∀ F2 H', Grow2 X.K F1 H1 F2 H' → Step X.K F0 H σ ρ fp F2 H' (σ1.set j (some (.ref a))) ρ1 fp1 := fun F2 H' g1 => by
              have s2 := s1.trans (g1.step (T := []) s1.env).st
              have s3 := s2.trans (wipe_step s2.env (σin := σ1.set j (some (.ref a))) (vs := [j]) (isNo_own hno) (by rw [List.length_set]) fun i hi => sg_set_ne fun z => hi (by simp [z]))
              have e : wipeR ρ1 [j] = ρ1 := e1
              rw [e] at s3
              exact s3
            refine ⟨C, rfl, rfl, _, (by rw [List.getElem?_set_self hjl]), rfl, c, hc, hC, F1, s1.env.sub, s1.env.tb, fun F2 H' sm => ?_⟩
            have sB := set_stepW (sA F2 H' sm) h2 (v := .str (c ++ plusS)) (A := []) ⟨_, rfl, .str _⟩ List.nodup_nil (fun b hb => nomatch hb) (fun _ => rfl) (fun b hb => nomatch hb)
            have sC := sB.trans (wipe_step sB.env (σin := ((σ1.set j (some (.ref a))).set i (some (.str (c ++ plusS)))).set j none) (vs := [j]) (isNo_own hno2) (by rw [List.length_set]) fun i hi => sg_set_ne fun z => hi (by simp [z]))
            have e : wipeR ρ2 [j] = ρ2 := e2
            rw [e] at sC
            exact P _ H' F2 _ sC
          · cases q
        · cases q
      · cases q
end
end VL

end

section
set_option Elab.async false
set_option linter.all false
set_option maxRecDepth 100000
namespace VL
open PySem PySem.Spec PyProof.Rows L2

noncomputable def okM {α : Type} (o : Option (Er α)) (P : α → Rho → Prop) : Prop := ∃ a ρ, o = some (.ok a ρ) ∧ P a ρ
noncomputable def okS (o : Option Out) (P : Out → Prop) : Prop := ∃ x, o = some x ∧ P x
noncomputable def okF (o : Option (FR × List Sl)) (P : Tr → List Sl → Prop) : Prop := ∃ t outs, o = some (.ret t, outs) ∧ P t outs
noncomputable def okR (o : Option Rho) (P : Rho → Prop) : Prop := ∃ ρ, o = some ρ ∧ P ρ
noncomputable def okO {α : Type} (o : Option α) (P : α → Prop) : Prop := ∃ a, o = some a ∧ P a
section
variable {α β : Type} {ρ : Rho}
@[simp] theorem okO_some {a : α} {P : α → Prop} : okO (some a) P ↔ P a := ⟨fun ⟨_, e, h⟩ => by cases e; exact h, fun h => ⟨_, rfl, h⟩⟩
@[simp] theorem okO_none {P : α → Prop} : okO (none : Option α) P ↔ False := ⟨fun ⟨_, e, _⟩ => (by cases e), False.elim⟩
@[simp] theorem okR_some {P : Rho → Prop} {ρ : Rho} : okR (some ρ) P ↔ P ρ := ⟨fun ⟨_, e, h⟩ => by cases e; exact h, fun h => ⟨_, rfl, h⟩⟩
@[simp] theorem okR_none {P : Rho → Prop} : okR none P ↔ False := ⟨fun ⟨_, e, _⟩ => (by cases e), False.elim⟩
@[simp] theorem okS_some {P : Out → Prop} {o : Out} : okS (some o) P ↔ P o := ⟨fun ⟨_, e, h⟩ => by cases e; exact h, fun h => ⟨_, rfl, h⟩⟩
@[simp] theorem okS_none {P : Out → Prop} : okS none P ↔ False := ⟨fun ⟨_, e, _⟩ => (by cases e), False.elim⟩
@[simp] theorem okM_ok {a : α} {P : α → Rho → Prop} : okM (some (Er.ok a ρ)) P ↔ P a ρ := ⟨fun ⟨_, _, e, h⟩ => by cases e; exact h, fun h => ⟨_, _, rfl, h⟩⟩
@[simp] theorem okM_none {P : α → Rho → Prop} : okM (none : Option (Er α)) P ↔ False := ⟨fun ⟨_, _, e, _⟩ => (by cases e), False.elim⟩
@[simp] theorem okF_some {P : Tr → List Sl → Prop} {t : Tr} {outs : List Sl} : okF (some (.ret t, outs)) P ↔ P t outs := ⟨fun ⟨_, _, e, h⟩ => by cases e; exact h, fun h => ⟨_, _, rfl, h⟩⟩
theorem okM_congr {o : Option (Er α)} {P Q : α → Rho → Prop} (h : ∀ a ρ, P a ρ ↔ Q a ρ) : okM o P ↔ okM o Q := ⟨fun ⟨a, ρ, e, p⟩ => ⟨a, ρ, e, (h a ρ).mp p⟩, fun ⟨a, ρ, e, p⟩ => ⟨a, ρ, e, (h a ρ).mpr p⟩⟩
@[simp] theorem okM_bnd {f : M α} {k : α → M β} {P : β → Rho → Prop} : okM (bnd f k ρ) P ↔ okM (f ρ) fun a ρ1 => okM (k a ρ1) P := by
  unfold bnd
  constructor
  · rintro ⟨b, ρ2, e, h⟩
    cases q : f ρ with
    | none => rw [q] at e; cases e
    | some r =>
      rw [q] at e
      cases r with
      | ok a ρ1 => exact ⟨a, ρ1, rfl, b, ρ2, e, h⟩
      | ex c ρ1 => cases e
  · rintro ⟨a, ρ1, e, b, ρ2, e2, h⟩
    exact ⟨b, ρ2, by rw [e]; exact e2, h⟩
@[simp] theorem okM_ret {a : α} {P : α → Rho → Prop} : okM (ret a ρ) P ↔ P a ρ := okM_ok
@[simp] theorem okS_E {f : M α} {k : α → MS} {P : Out → Prop} (hx : ∀ c ρ, P (.ex c ρ) ↔ False) : okS (sE f k ρ) P ↔ okM (f ρ) fun a ρ1 => okS (k a ρ1) P := by
  unfold sE
  constructor
  · rintro ⟨o, e, h⟩
    cases q : f ρ with
    | none => rw [q] at e; cases e
    | some r =>
      rw [q] at e
      cases r with
      | ok a ρ1 => exact ⟨a, ρ1, rfl, o, e, h⟩
      | ex c ρ1 => cases e; exact ((hx _ _).mp h).elim
  · rintro ⟨a, ρ1, e, o, e2, h⟩
    exact ⟨o, by rw [e]; exact e2, h⟩
theorem okS_E' {f : M α} {k : α → MS} {P : Out → Prop} (h : okM (f ρ) fun a ρ1 => okS (k a ρ1) P) : okS (sE f k ρ) P := by
  obtain ⟨a, ρ1, e, o, e2, h⟩ := h
  exact ⟨o, by unfold sE; rw [e]; exact e2, h⟩
noncomputable def nxt (h : MS) (P : Out → Prop) : Out → Prop
  | .nx ρ1 => okS (h ρ1) P
  | o => P o
@[simp] theorem nxt_nx {h : MS} {P : Out → Prop} : nxt h P (.nx ρ) ↔ okS (h ρ) P := Iff.rfl
@[simp] theorem nxt_rt {h : MS} {P : Out → Prop} {t : Tr} : nxt h P (.rt t ρ) ↔ P (.rt t ρ) := Iff.rfl
@[simp] theorem nxt_bk {h : MS} {P : Out → Prop} : nxt h P (.bk ρ) ↔ P (.bk ρ) := Iff.rfl
@[simp] theorem nxt_ct {h : MS} {P : Out → Prop} : nxt h P (.ct ρ) ↔ P (.ct ρ) := Iff.rfl
@[simp] theorem nxt_ex {h : MS} {P : Out → Prop} {c : Str} : nxt h P (.ex c ρ) ↔ P (.ex c ρ) := Iff.rfl
theorem okS_seq {g h : MS} {P : Out → Prop} : okS (sSeq g h ρ) P ↔ okS (g ρ) (nxt h P) := by
  unfold sSeq
  constructor
  · rintro ⟨o, e, p⟩
    cases q : g ρ with
    | none => rw [q] at e; cases e
    | some r =>
      rw [q] at e
      cases r with
      | nx ρ1 => exact ⟨_, rfl, o, e, p⟩
      | _ => cases e; exact ⟨_, rfl, p⟩
  · rintro ⟨r, q, p⟩
    cases r with
    | nx ρ1 =>
      obtain ⟨o, e, p⟩ := p
      exact ⟨o, by rw [q]; exact e, p⟩
    | _ => exact ⟨_, by rw [q], p⟩
theorem okM_mono {o : Option (Er α)} {P Q : α → Rho → Prop} (h : okM o P) (i : ∀ a ρ, P a ρ → Q a ρ) : okM o Q := let ⟨x, ρ, e, p⟩ := h; ⟨x, ρ, e, i x ρ p⟩
theorem okF_mono {o : Option (FR × List Sl)} {P Q : Tr → List Sl → Prop} (h : okF o P) (i : ∀ a ρ, P a ρ → Q a ρ) : okF o Q := let ⟨x, ρ, e, p⟩ := h; ⟨x, ρ, e, i x ρ p⟩
@[simp] theorem okM_cD {x : PyData} {P : Rv → Rho → Prop} : okM (cD x ρ) P ↔ P (.d x) ρ := okM_ok
theorem okM_bin1 {g : PyData → PyData → Option PyData} {x y : Rv} {P : Rv → Rho → Prop} : okM (bin1 g x y ρ) P ↔ okO (derS ρ x) fun a => okO (derS ρ y) fun b => okO (g a b) fun z => P (.d z) ρ := by
  unfold bin1
  cases derS ρ x <;> cases derS ρ y <;> simp
  rename_i a b
  cases g a b <;> simp
@[simp] theorem okM_cBin {g : PyData → PyData → Option PyData} {fa fb : M Rv} {P : Rv → Rho → Prop} : okM (cBin g fa fb ρ) P ↔ okM (fa ρ) fun x ρ1 => okM (fb ρ1) fun y ρ2 => okO (derS ρ2 x) fun a => okO (derS ρ2 y) fun b => okO (g a b) fun z => P (.d z) ρ2 := by
  unfold cBin
  simp only [okM_bnd, okM_bin1]
theorem okM_binD {g : PyData → PyData → Option Bool} {x y : Rv} {P : Bool → Rho → Prop} : okM (binD g x y ρ) P ↔ okO (der ρ x) fun a => okO (der ρ y) fun b => okO (g a b) fun z => P z ρ := by
  unfold binD
  cases der ρ x <;> cases der ρ y <;> simp
  rename_i a b
  cases g a b <;> simp
@[simp] theorem okM_cCmp {g : PyData → PyData → Option Bool} {fa fb : M Rv} {P : Bool → Rho → Prop} : okM (cCmp g fa fb ρ) P ↔ okM (fa ρ) fun x ρ1 => okM (fb ρ1) fun y ρ2 => okO (der ρ2 x) fun a => okO (der ρ2 y) fun b => okO (g a b) fun z => P z ρ2 := by
  unfold cCmp
  simp only [okM_bnd, okM_binD]
@[simp] theorem okM_cOf {f : M Bool} {P : Rv → Rho → Prop} : okM (cOf f ρ) P ↔ okM (f ρ) fun b ρ1 => P (.d (.bool b)) ρ1 := by
  unfold cOf
  simp only [okM_bnd, okM_ret]
@[simp] theorem okM_chain {g g' : PyData → PyData → Option Bool} {fa fb fc : M Rv} {P : Bool → Rho → Prop} : okM (cChain g g' fa fb fc ρ) P ↔ okM (fa ρ) fun x ρ1 => okM (fb ρ1) fun y ρ2 => okO (der ρ2 x) fun a => okO (der ρ2 y) fun b => okO (g a b) fun k =>
    if k = true then okM (fc ρ2) fun z ρ3 => okO (der ρ3 y) fun b' => okO (der ρ3 z) fun c => okO (g' b' c) fun r => P r ρ3 else P false ρ2 := by
  unfold cChain
  simp only [okM_bnd, okM_binD]
  have e : ∀ (k : Bool) (y : Rv) (ρ2 : Rho), okM ((if k = true then bnd fc fun z => binD g' y z else ret false) ρ2) P ↔ if k = true then okM (fc ρ2) fun z ρ3 => okO (der ρ3 y) fun b' => okO (der ρ3 z) fun c => okO (g' b' c) fun r => P r ρ3 else P false ρ2 := fun k y ρ2 => by
    cases k <;> simp [okM_binD]
  simp only [e]
@[simp] theorem okM_cTest {f : M Rv} {P : Bool → Rho → Prop} : okM (cTest f ρ) P ↔ okM (f ρ) fun x ρ1 => okO (asB ρ1 x) fun b => P b ρ1 := by
  unfold cTest
  rw [okM_bnd]
  refine okM_congr fun x ρ1 => ?_
  cases asB ρ1 x <;> simp
@[simp] theorem asB_d {b : Bool} : asB ρ (.d (.bool b)) = some b := rfl
@[simp] theorem okM_cNot {f : M Bool} {P : Bool → Rho → Prop} : okM (cNot f ρ) P ↔ okM (f ρ) fun b ρ1 => P (!b) ρ1 := by
  unfold cNot
  simp only [okM_bnd, okM_ret]
@[simp] theorem okM_cAnd {f g : M Bool} {P : Bool → Rho → Prop} : okM (cAnd f g ρ) P ↔ okM (f ρ) fun b ρ1 => if b = true then okM (g ρ1) P else P false ρ1 := by
  unfold cAnd
  simp only [okM_bnd]
  have e : ∀ (k : Bool) (ρ2 : Rho), okM ((if k = true then g else ret false) ρ2) P ↔ if k = true then okM (g ρ2) P else P false ρ2 := fun k ρ2 => by cases k <;> simp
  simp only [e]
@[simp] theorem okM_cOr {f g : M Bool} {P : Bool → Rho → Prop} : okM (cOr f g ρ) P ↔ okM (f ρ) fun b ρ1 => if b = true then P true ρ1 else okM (g ρ1) P := by
  unfold cOr
  simp only [okM_bnd]
  have e : ∀ (k : Bool) (ρ2 : Rho), okM ((if k = true then ret true else g) ρ2) P ↔ if k = true then P true ρ2 else okM (g ρ2) P := fun k ρ2 => by cases k <;> simp
  simp only [e]
@[simp] theorem okM_cAndV {f g : M Rv} {P : Rv → Rho → Prop} : okM (cAndV f g ρ) P ↔ okM (f ρ) fun x ρ1 => okO (asB ρ1 x) fun b => if b = true then okM (g ρ1) P else P (.d (.bool false)) ρ1 := by
  unfold cAndV
  simp only [okM_bnd, okM_cTest]
  have e : ∀ (k : Bool) (ρ2 : Rho), okM ((if k = true then g else ret (.d (.bool false))) ρ2) P ↔ if k = true then okM (g ρ2) P else P (.d (.bool false)) ρ2 := fun k ρ2 => by cases k <;> simp
  simp only [e]
@[simp] theorem okM_cOrV {f g : M Rv} {P : Rv → Rho → Prop} : okM (cOrV f g ρ) P ↔ okM (f ρ) fun x ρ1 => okO (asB ρ1 x) fun b => if b = true then P (.d (.bool true)) ρ1 else okM (g ρ1) P := by
  unfold cOrV
  simp only [okM_bnd, okM_cTest]
  have e : ∀ (k : Bool) (ρ2 : Rho), okM ((if k = true then ret (.d (.bool true)) else g) ρ2) P ↔ if k = true then P (.d (.bool true)) ρ2 else okM (g ρ2) P := fun k ρ2 => by cases k <;> simp
  simp only [e]
@[simp] theorem okM_cNotV {f : M Rv} {P : Rv → Rho → Prop} : okM (cNotV f ρ) P ↔ okM (f ρ) fun x ρ1 => okO (asB ρ1 x) fun b => P (.d (.bool (!b))) ρ1 := by
  unfold cNotV
  simp only [okM_bnd, okM_cTest, okM_ret]
@[simp] theorem okM_cIf {c : M Bool} {f g : M α} {P : α → Rho → Prop} : okM (cIf c f g ρ) P ↔ okM (c ρ) fun b ρ1 => if b = true then okM (f ρ1) P else okM (g ρ1) P := by
  unfold cIf
  simp only [okM_bnd]
  have e : ∀ (k : Bool) (ρ2 : Rho), okM ((if k = true then f else g) ρ2) P ↔ if k = true then okM (f ρ2) P else okM (g ρ2) P := fun k ρ2 => by cases k <;> simp
  simp only [e]
@[simp] theorem okM_aNil {P : List Rv → Rho → Prop} : okM (aNil ρ) P ↔ P [] ρ := okM_ok
@[simp] theorem okM_aCons {f : M Rv} {g : M (List Rv)} {P : List Rv → Rho → Prop} : okM (aCons f g ρ) P ↔ okM (f ρ) fun x ρ1 => okM (g ρ1) fun xs ρ2 => P (x :: xs) ρ2 := by
  unfold aCons
  simp only [okM_bnd, okM_ret]
@[simp] theorem okM_mkTup {rs : List Rv} {P : Rv → Rho → Prop} : okM (mkTup rs ρ) P ↔ okO (datas rs) fun ds => small ds.length = true ∧ P (.d (.tuple ds)) ρ := by
  unfold mkTup
  cases datas rs <;> simp
  split <;> simp_all
@[simp] theorem okM_cTup {f : M (List Rv)} {P : Rv → Rho → Prop} : okM (cTup f ρ) P ↔ okM (f ρ) fun rs ρ1 => okO (datas rs) fun ds => small ds.length = true ∧ P (.d (.tuple ds)) ρ1 := by
  unfold cTup
  simp only [okM_bnd, okM_mkTup]
@[simp] theorem okM_mkLst {rs : List Rv} {P : Tr → Rho → Prop} : okM (mkLst rs ρ) P ↔ okO (datas rs) fun ds => small ds.length = true ∧ P (.lst (ds.map .dat)) ρ := by
  unfold mkLst
  cases datas rs <;> simp
  split <;> simp_all
@[simp] theorem okM_nLst {f : M (List Rv)} {P : Tr → Rho → Prop} : okM (nLst f ρ) P ↔ okM (f ρ) fun rs ρ1 => okO (datas rs) fun ds => small ds.length = true ∧ P (.lst (ds.map .dat)) ρ1 := by
  unfold nLst
  simp only [okM_bnd, okM_mkLst]
@[simp] theorem okM_cFrz {f : M Tr} {P : Rv → Rho → Prop} : okM (cFrz f ρ) P ↔ okM (f ρ) fun t ρ1 => okO t.toD fun d => P (.d d) ρ1 := by
  unfold cFrz
  rw [okM_bnd]
  refine okM_congr fun t ρ1 => ?_
  cases t.toD <;> simp
noncomputable def rvd : Rv → Option PyData
  | .d d => some d
  | .o _ => none
@[simp] theorem rvd_d {d : PyData} : rvd (.d d) = some d := rfl
@[simp] theorem okM_nDat {f : M Rv} {P : Tr → Rho → Prop} : okM (nDat f ρ) P ↔ okM (f ρ) fun x ρ1 => okO (rvd x) fun d => P (.dat d) ρ1 := by
  unfold nDat
  rw [okM_bnd]
  refine okM_congr fun x ρ1 => ?_
  cases x <;> simp [rvd]
noncomputable def rvi : Rv → Option Int
  | .d (.int i) => some i
  | _ => none
@[simp] theorem rvi_d {i : Int} : rvi (.d (.int i)) = some i := rfl
@[simp] theorem okM_oNone {P : Option Int → Rho → Prop} : okM (oNone ρ) P ↔ P none ρ := okM_ok
@[simp] theorem okM_oSome {f : M Rv} {P : Option Int → Rho → Prop} : okM (oSome f ρ) P ↔ okM (f ρ) fun x ρ1 => okO (rvi x) fun i => P (some i) ρ1 := by
  unfold oSome
  rw [okM_bnd]
  refine okM_congr fun x ρ1 => ?_
  cases x with
  | o _ => simp [rvi]
  | d d => cases d <;> simp [rvi]
@[simp] theorem okM_cNeg {f : M Rv} {P : Rv → Rho → Prop} : okM (cNeg f ρ) P ↔ okM (f ρ) fun x ρ1 => okO (rvi x) fun i => P (.d (.int (-i))) ρ1 := by
  unfold cNeg
  rw [okM_bnd]
  refine okM_congr fun x ρ1 => ?_
  cases x with
  | o _ => simp [rvi]
  | d d => cases d <;> simp [rvi]
@[simp] theorem okM_cCut {f : M Rv} {fl fh : M (Option Int)} {P : Rv → Rho → Prop} : okM (cCut f fl fh ρ) P ↔ okM (f ρ) fun x ρ1 => okM (fl ρ1) fun lo ρ2 => okM (fh ρ2) fun hi ρ3 => okO (derS ρ3 x) fun d => okO (cutD d lo hi) fun z => P (.d z) ρ3 := by
  unfold cCut
  simp only [okM_bnd]
  have e : ∀ (x : Rv) (lo hi : Option Int) (ρ3 : Rho), okM (cut1 x lo hi ρ3) P ↔ okO (derS ρ3 x) fun d => okO (cutD d lo hi) fun z => P (.d z) ρ3 := fun x lo hi ρ3 => by
    unfold cut1
    cases derS ρ3 x <;> simp
    rename_i d
    cases cutD d lo hi <;> simp
  simp only [e]
@[simp] theorem okM_cCall {g : List PyData → Option PyData} {f : M (List Rv)} {P : Rv → Rho → Prop} : okM (cCall g f ρ) P ↔ okM (f ρ) fun rs ρ1 => okO (derSs ρ1 rs) fun ds => okO (g ds) fun z => P (.d z) ρ1 := by
  unfold cCall
  simp only [okM_bnd]
  have e : ∀ (rs : List Rv) (ρ3 : Rho), okM (call1 g rs ρ3) P ↔ okO (derSs ρ3 rs) fun ds => okO (g ds) fun z => P (.d z) ρ3 := fun rs ρ3 => by
    unfold call1
    cases derSs ρ3 rs <;> simp
    rename_i d
    cases g d <;> simp
  simp only [e]
@[simp] theorem okM_cIsi {B : BT} {f : M Rv} {P : Rv → Rho → Prop} : okM (cIsi B f ρ) P ↔ okM (f ρ) fun x ρ1 => okO (der ρ1 x) fun d => okO (isiD B d) fun b => P (.d (.bool b)) ρ1 := by
  unfold cIsi
  rw [okM_bnd]
  refine okM_congr fun x ρ1 => ?_
  cases der ρ1 x with
  | none => simp
  | some d => cases h : isiD B d <;> simp [h]
noncomputable def rvs : Rv → Option Str
  | .d (.str i) => some i
  | _ => none
@[simp] theorem rvs_d {i : Str} : rvs (.d (.str i)) = some i := rfl
@[simp] theorem okM_cTab {tb : List (Str × PyData)} {f : M Rv} {P : Rv → Rho → Prop} : okM (cTab tb f ρ) P ↔ okM (f ρ) fun x ρ1 => okO (rvs x) fun z => okO (tb.lookup z) fun d => P (.d d) ρ1 := by
  unfold cTab
  simp only [okM_bnd]
  have e : ∀ (x : Rv) (ρ1 : Rho), okM (tabD tb x ρ1) P ↔ okO (rvs x) fun z => okO (tb.lookup z) fun d => P (.d d) ρ1 := fun x ρ1 => by
    unfold tabD
    cases x with
    | o _ => simp [rvs]
    | d d =>
      cases d <;> simp [rvs]
      rename_i z
      cases tb.lookup z <;> simp
  simp only [e]
@[simp] theorem okM_callN {Ts : List Nat} {m : Nat} {F : Fn} {rs : List Rv} {P : Tr → Rho → Prop} : okM (callN Ts m F rs ρ) P ↔ okO (argSls ρ rs) fun args => (rs.length = m ∧ oneEach rs = true ∧ allIn Ts rs = true) ∧ okF (F args) fun t outs => backOk args (mrg args outs) = true ∧ P t (wb ρ rs (mrg args outs)) := by
  unfold callN
  cases argSls ρ rs with
  | none => simp
  | some args =>
    simp only [okO_some]
    constructor
    · rintro ⟨a, ρ1, e, h⟩
      split at e
      · rename_i hc
        simp only [Bool.and_eq_true, decide_eq_true_eq] at hc
        refine ⟨hc, ?_⟩
        split at e
        · rename_i t outs hf
          split at e
          · rename_i hb
            cases e
            exact ⟨_, _, hf, hb, h⟩
          · cases e
        · cases e
      · cases e
    · rintro ⟨hc, t, outs, hf, hb, h⟩
      refine ⟨t, _, ?_, h⟩
      rw [if_pos (by simp only [Bool.and_eq_true, decide_eq_true_eq]; exact hc), hf]
      simp only [hb, if_true]
@[simp] theorem okM_nCall {Ts : List Nat} {m : Nat} {F : Fn} {f : M (List Rv)} {P : Tr → Rho → Prop} : okM (nCall Ts m F f ρ) P ↔ okM (f ρ) fun rs ρ1 => okM (callN Ts m F rs ρ1) P := by
  unfold nCall
  simp only [okM_bnd]
noncomputable def rvx : Rv → Option (List PyData)
  | .d d => itemsOf d
  | .o _ => none
@[simp] theorem rvx_l {xs : List PyData} : rvx (.d (.list xs)) = some xs := rfl
@[simp] theorem rvx_t {xs : List PyData} : rvx (.d (.tuple xs)) = some xs := rfl
@[simp] theorem okM_iSeq {f : M Rv} {P : List PyData → Rho → Prop} : okM (iSeq f ρ) P ↔ okM (f ρ) fun x ρ1 => okO (rvx x) fun xs => P xs ρ1 := by
  unfold iSeq
  rw [okM_bnd]
  refine okM_congr fun x ρ1 => ?_
  cases x with
  | o _ => simp [rvx]
  | d d => cases h : itemsOf d <;> simp [rvx, h]
@[simp] theorem okS_nil {P : Out → Prop} : okS (sNil ρ) P ↔ P (.nx ρ) := okS_some
@[simp] theorem okS_retN {P : Out → Prop} : okS (sRetN ρ) P ↔ P (.rt (.dat .none) ρ) := okS_some
theorem okS_ret {f : M Tr} {P : Out → Prop} (h : okM (f ρ) fun t ρ1 => P (.rt t ρ1)) : okS (sRet f ρ) P := okS_E' (okM_mono h fun a ρ1 p => okS_some.mpr p)
theorem okS_putD {i : Nat} {d : PyData} {P : Out → Prop} : okS (putD i d ρ) P ↔ okR (setSl ρ i (.val d)) fun ρ1 => P (.nx ρ1) := by
  unfold putD
  cases setSl ρ i (.val d) <;> simp
theorem okS_set {i : Nat} {f : M Rv} {P : Out → Prop} (h : okM (f ρ) fun x ρ1 => okO (rvd x) fun d => okR (setSl ρ1 i (.val d)) fun ρ2 => P (.nx ρ2)) : okS (sSet i f ρ) P := by
  refine okS_E' (okM_mono h fun x ρ1 p => ?_)
  cases x with
  | d d =>
    simp only [rvd_d, okO_some] at p
    exact okS_putD.mpr p
  | o j => simp [rvd] at p
theorem okS_setN {i : Nat} {f : M Tr} {P : Out → Prop} (h : okM (f ρ) fun t ρ1 => okR (setSl ρ1 i (.own .free t)) fun ρ2 => P (.nx ρ2)) : okS (sSetN i f ρ) P := by
  refine okS_E' (okM_mono h fun t ρ1 p => ?_)
  obtain ⟨ρ2, e, p⟩ := p
  exact ⟨_, by rw [e]; rfl, p⟩
theorem okS_if {c : M Bool} {g h : MS} {P : Out → Prop} (k : okM (c ρ) fun b ρ1 => if b = true then okS (g ρ1) P else okS (h ρ1) P) : okS (sIf c g h ρ) P := by
  refine okS_E' (okM_mono k fun b ρ1 p => ?_)
  cases b <;> simpa using p
noncomputable def turn (J : Rho → Prop) (P : Out → Prop) : Out → Prop
  | .nx ρ => J ρ
  | .ct ρ => J ρ
  | .bk ρ => P (.nx ρ)
  | .rt t ρ => P (.rt t ρ)
  | .ex c ρ => P (.ex c ρ)
@[simp] theorem turn_nx {J : Rho → Prop} {P : Out → Prop} : turn J P (.nx ρ) ↔ J ρ := Iff.rfl
@[simp] theorem turn_ct {J : Rho → Prop} {P : Out → Prop} : turn J P (.ct ρ) ↔ J ρ := Iff.rfl
@[simp] theorem turn_bk {J : Rho → Prop} {P : Out → Prop} : turn J P (.bk ρ) ↔ P (.nx ρ) := Iff.rfl
@[simp] theorem turn_rt {J : Rho → Prop} {P : Out → Prop} {t : Tr} : turn J P (.rt t ρ) ↔ P (.rt t ρ) := Iff.rfl
theorem okS_loop {G : MG} {body : MS} {P : Out → Prop} : ∀ (xs : List PyData) (J : Nat → Rho → Prop) (ρ : Rho), J 0 ρ → (∀ i x ρ, xs[i]? = some x → J i ρ → okR (G x ρ) fun ρ1 => okS (body ρ1) (turn (J (i + 1)) P)) → (∀ ρ, J xs.length ρ → P (.nx ρ)) → okS (loopF G body xs ρ) P
  | [], J, ρ, h0, _, hd => okS_some.mpr (hd ρ h0)
  | x :: xs, J, ρ, h0, hs, hd => by
    obtain ⟨ρ1, e1, o, e2, p⟩ := hs 0 x ρ rfl h0
    have again := okS_loop (G := G) (body := body) (P := P) xs (fun i => J (i + 1))
    have hs' : ∀ i y ρ, xs[i]? = some y → J (i + 1) ρ → okR (G y ρ) fun ρ1 => okS (body ρ1) (turn (J (i + 1 + 1)) P) := fun i y ρ hy hj => hs (i + 1) y ρ (by simpa using hy) hj
    have hd' : ∀ ρ, J (xs.length + 1) ρ → P (.nx ρ) := fun ρ h => hd ρ (by simpa using h)
    unfold loopF
    rw [e1]
    simp only
    rw [e2]
    cases o with
    | nx ρ2 => exact again ρ2 p hs' hd'
    | ct ρ2 => exact again ρ2 p hs' hd'
    | bk ρ2 => exact ⟨_, rfl, p⟩
    | rt t ρ2 => exact ⟨_, rfl, p⟩
    | ex c ρ2 => exact ⟨_, rfl, p⟩
theorem okS_for {fi : M (List PyData)} {G : MG} {body : MS} {P : Out → Prop} (J : Nat → Rho → Prop) {xs : List PyData} (h : okM (fi ρ) fun ys ρ1 => ys = xs ∧ J 0 ρ1) (hs : ∀ i x ρ, xs[i]? = some x → J i ρ → okR (G x ρ) fun ρ1 => okS (body ρ1) (turn (J (i + 1)) P)) (hd : ∀ ρ, J xs.length ρ → P (.nx ρ)) : okS (sFor fi G body ρ) P := by
  refine okS_E' (okM_mono h ?_)
  rintro ys ρ1 ⟨rfl, j⟩
  exact okS_loop _ J ρ1 j hs hd
theorem okF_run {n : Nat} {g : MS} {args : List Sl} {P : Tr → List Sl → Prop} (h : okS (g (entry n args)) fun o => match o with
    | .nx ρ' => P (.dat .none) (ρ'.take args.length)
    | .rt t ρ' => P t (ρ'.take args.length)
    | _ => False) : okF (runF n g args) P := by
  obtain ⟨o, e, p⟩ := h
  unfold runF
  rw [e]
  cases o with
  | nx ρ' => exact ⟨_, _, rfl, p⟩
  | rt t ρ' => exact ⟨_, _, rfl, p⟩
  | bk ρ' => exact p.elim
  | ct ρ' => exact p.elim
  | ex c ρ' => exact p.elim
end
end VL

end

section
set_option Elab.async false
set_option linter.all false
set_option maxRecDepth 100000
namespace VL
open PySem PySem.Spec PyProof.Rows L2
section
variable {α β : Type} {ρ : Rho} {P : Out → Prop}
theorem okO_map {f : α → β} {o : Option α} {Q : β → Prop} : okO (o.map f) Q ↔ okO o fun a => Q (f a) := by cases o <;> simp
@[simp] theorem okO_ite {c : Prop} [Decidable c] {a : α} {Q : α → Prop} : okO (if c then some a else none) Q ↔ c ∧ Q a := by
  by_cases h : c <;> simp [h]
@[simp] theorem okO_iteO {c : Prop} [Decidable c] {a : Option α} {Q : α → Prop} : okO (if c then a else none) Q ↔ c ∧ okO a Q := by
  by_cases h : c <;> simp [h]
theorem varS {i : Nat} : cVar i ρ = match ρ[i]? with
  | some (.val d) => some (.ok (.d d) ρ)
  | some (.own _ (.dat d)) => some (.ok (.d d) ρ)
  | some (.own _ _) => some (.ok (.o i) ρ)
  | _ => none := rfl
noncomputable def rdSl (i : Nat) (s : Option Sl) : Option Rv := match s with
  | some (.val d) => some (Rv.d d)
  | some (.own _ (.dat d)) => some (.d d)
  | some (.own _ _) => some (.o i)
  | _ => none
@[simp] theorem rdSl_val {i : Nat} {d : PyData} : rdSl i (some (.val d)) = some (.d d) := rfl
@[simp] theorem rdSl_dat {i : Nat} {m : Md} {d : PyData} : rdSl i (some (.own m (.dat d))) = some (.d d) := rfl
@[simp] theorem rdSl_lst {i : Nat} {m : Md} {ts : List Tr} : rdSl i (some (.own m (.lst ts))) = some (.o i) := rfl
@[simp] theorem rdSl_tup {i : Nat} {m : Md} {ts : List Tr} : rdSl i (some (.own m (.tup ts))) = some (.o i) := rfl
@[simp] theorem rdSl_dk {i : Nat} {m : Md} {ts : List (Key × Tr)} : rdSl i (some (.own m (.dk ts))) = some (.o i) := rfl
@[simp] theorem rdSl_dt {i : Nat} {m : Md} {ts : List (List Key × Tr)} : rdSl i (some (.own m (.dt ts))) = some (.o i) := rfl
@[simp] theorem okM_var_val {i : Nat} {Q : Rv → Rho → Prop} : okM (cVar i ρ) Q ↔ okO (rdSl i ρ[i]?) fun r => Q r ρ := by
  rw [varS]
  unfold rdSl
  split <;> simp
@[simp] theorem derS_d {d : PyData} : derS ρ (.d d) = some d := rfl
@[simp] theorem der_d {d : PyData} : der ρ (.d d) = some d := rfl
noncomputable def dsSl (s : Option Sl) : Option PyData := match s with
    | some (.own _ (.lst ts)) => (flat ts).map .list
    | _ => none
noncomputable def drSl (s : Option Sl) : Option PyData := match s with
    | some (.own _ t) => t.toD
    | _ => none
@[simp] theorem dsSl_lst {m : Md} {ts : List Tr} : dsSl (some (.own m (.lst ts))) = (flat ts).map .list := rfl
@[simp] theorem drSl_own {m : Md} {t : Tr} : drSl (some (.own m t)) = t.toD := rfl
@[simp] theorem derS_o {i : Nat} : derS ρ (.o i) = dsSl ρ[i]? := rfl
@[simp] theorem der_o {i : Nat} : der ρ (.o i) = drSl ρ[i]? := rfl
@[simp] theorem flat_nil : flat [] = some [] := rfl
@[simp] theorem flat_cons {d : PyData} {ts : List Tr} : flat (.dat d :: ts) = (flat ts).map (d :: ·) := rfl
@[simp] theorem flat_map {ds : List PyData} : flat (ds.map .dat) = some ds := flat_dat ds
@[simp] theorem toD_dat {d : PyData} : (Tr.dat d).toD = some d := by simp [Tr.toD]
@[simp] theorem toDs_map : ∀ {ds : List PyData}, Tr.toDs (ds.map .dat) = some ds
  | [] => by simp [Tr.toDs]
  | d :: ds => by simp [Tr.toDs, toDs_map (ds := ds)]
@[simp] theorem toDs_nil : Tr.toDs [] = some [] := by simp [Tr.toDs]
@[simp] theorem toDs_cons {d : PyData} {ts : List Tr} : Tr.toDs (.dat d :: ts) = (Tr.toDs ts).map (d :: ·) := by
  simp only [Tr.toDs, toD_dat]
  cases Tr.toDs ts <;> simp
@[simp] theorem toD_lst {ts : List Tr} : (Tr.lst ts).toD = (Tr.toDs ts).map .list := by simp [Tr.toD]
@[simp] theorem toD_tup {ts : List Tr} : (Tr.tup ts).toD = (Tr.toDs ts).map .tuple := by simp [Tr.toD]
@[simp] theorem asB_b {b : Bool} {r : Rv} (h : r = .d (.bool b)) : asB ρ r = some b := by rw [h]; rfl
@[simp] theorem datas_nil : datas [] = some [] := rfl
@[simp] theorem datas_cons {d : PyData} {rs : List Rv} : datas (.d d :: rs) = (datas rs).map (d :: ·) := rfl
theorem small_of {n : Nat} (h : n ≤ 16777216) : small n = true := small_iff.mpr (by rw [sizeLine_eq]; exact h)
@[simp] theorem small_lit {n : Nat} (h : n ≤ 16777216) : small n = true := small_of h
theorem lt_lim {i : Int} (h : -18446744073709551616 ≤ i) (h2 : i ≤ 18446744073709551616) : i.natAbs < lim := by
  have e : 18446744073709551616 < lim := by decide +kernel
  omega
@[simp] theorem addD_i {i j : Int} : addD (.int i) (.int j) = some (.int (i + j)) := rfl
@[simp] theorem subtD_i {i j : Int} : subtD (.int i) (.int j) = some (.int (i - j)) := rfl
theorem mulD_i {i j : Int} : mulD (.int i) (.int j) = if i.natAbs < lim ∧ j.natAbs < lim then some (.int (i * j)) else none := rfl
@[simp] theorem okO_mulD {i j : Int} {Q : PyData → Prop} : okO (mulD (.int i) (.int j)) Q ↔ (i.natAbs < lim ∧ j.natAbs < lim) ∧ Q (.int (i * j)) := by rw [mulD_i, okO_ite]
@[simp] theorem okO_modD {i j : Int} {Q : PyData → Prop} : okO (modD (.int i) (.int j)) Q ↔ 0 < j ∧ Q (.int (i % j)) := by
  show okO (if 0 < j then some (.int (i % j)) else none) Q ↔ _
  rw [okO_ite]
@[simp] theorem okO_fdivD {i j : Int} {Q : PyData → Prop} : okO (fdivD (.int i) (.int j)) Q ↔ (0 < j ∧ j.natAbs < lim) ∧ Q (.int (i / j)) := by
  show okO (if 0 < j ∧ j.natAbs < lim then some (.int (i / j)) else none) Q ↔ _
  rw [okO_ite]
@[simp] theorem okO_powD {i j : Int} {Q : PyData → Prop} : okO (powD (.int i) (.int j)) Q ↔ (0 ≤ j ∧ j ≤ 1000 ∧ i.natAbs < 1000000) ∧ Q (.int (i ^ j.toNat)) := by
  show okO (if 0 ≤ j ∧ j ≤ 1000 ∧ i.natAbs < 1000000 then some (.int (i ^ j.toNat)) else none) Q ↔ _
  rw [okO_ite]
@[simp] theorem icmp_i {p : Int → Int → Bool} {i j : Int} : icmp p (.int i) (.int j) = some (p i j) := rfl
@[simp] theorem addD_t {xs ys : List PyData} {Q : PyData → Prop} : okO (addD (.tuple xs) (.tuple ys)) Q ↔ small (xs.length + ys.length) = true ∧ Q (.tuple (xs ++ ys)) := by
  show okO (if small (xs.length + ys.length) then some (.tuple (xs ++ ys)) else none) Q ↔ _
  rw [okO_ite]
@[simp] theorem addD_l {xs ys : List PyData} {Q : PyData → Prop} : okO (addD (.list xs) (.list ys)) Q ↔ small (xs.length + ys.length) = true ∧ Q (.list (xs ++ ys)) := by
  show okO (if small (xs.length + ys.length) then some (.list (xs ++ ys)) else none) Q ↔ _
  rw [okO_ite]
@[simp] theorem subD_l {xs : List PyData} {i : Int} : subD (.list xs) (.int i) = atI xs i := rfl
@[simp] theorem subD_t {xs : List PyData} {i : Int} : subD (.tuple xs) (.int i) = atI xs i := rfl
@[simp] theorem subD_s {xs : List Int} {i : Int} : subD (scrD xs) (.int i) = (atI xs i).map .int := by
  show (atI (xs.map fun i => (PyData.int i, PyData.none)) i).map (·.1) = _
  rw [atI_map, Option.map_map]
  rfl
@[simp] theorem cutD_l {xs : List PyData} {lo hi : Option Int} : cutD (.list xs) lo hi = some (.list (cutL xs lo hi)) := rfl
@[simp] theorem cutD_t {xs : List PyData} {lo hi : Option Int} : cutD (.tuple xs) lo hi = some (.tuple (cutL xs lo hi)) := rfl
@[simp] theorem derSs_nil : derSs ρ [] = some [] := rfl
@[simp] theorem derSs_cons {r : Rv} {rs : List Rv} : derSs ρ (r :: rs) = match derS ρ r, derSs ρ rs with
  | some d, some ds => some (d :: ds)
  | _, _ => none := rfl
@[simp] theorem lenD_l {xs : List PyData} : lenD [.list xs] = some (.int xs.length) := rfl
@[simp] theorem lenD_t {xs : List PyData} : lenD [.tuple xs] = some (.int xs.length) := rfl
@[simp] theorem lenD_s {xs : List Int} : lenD [scrD xs] = some (.int xs.length) := by
  show some (PyData.int (xs.map fun i => (PyData.int i, PyData.none)).length) = _
  rw [List.length_map]
@[simp] theorem absD_i {i : Int} : absD [.int i] = some (.int (if i < 0 then -i else i)) := rfl
@[simp] theorem min2D_i {i j : Int} : min2D [.int i, .int j] = some (.int (if j < i then j else i)) := rfl
@[simp] theorem max2D_i {i j : Int} : max2D [.int i, .int j] = some (.int (if j > i then j else i)) := rfl
@[simp] theorem intD_i {i : Int} : intD [.int i] = some (.int i) := rfl
@[simp] theorem intD_b {b : Bool} : intD [.bool b] = some (.int (if b then 1 else 0)) := rfl
@[simp] theorem tupleD_l {xs : List PyData} : tupleD [.list xs] = some (.tuple xs) := rfl
@[simp] theorem tupleD_t {xs : List PyData} : tupleD [.tuple xs] = some (.tuple xs) := rfl
@[simp] theorem listD_l {xs : List PyData} : listD [.list xs] = some (.list xs) := rfl
@[simp] theorem listD_t {xs : List PyData} : listD [.tuple xs] = some (.list xs) := rfl
@[simp] theorem pinS_val {d : PyData} : pinS (.val d) = .val d := rfl
@[simp] theorem pinS_no : pinS .no = .no := rfl
@[simp] theorem pinS_free {t : Tr} : pinS (.own .free t) = .own .pin t := rfl
@[simp] theorem pinS_pin {t : Tr} : pinS (.own .pin t) = .own .pin t := rfl
@[simp] theorem pinS_lock {t : Tr} : pinS (.own .lock t) = .own .lock t := rfl
@[simp] theorem arg_free : Md.arg .free = .free := rfl
@[simp] theorem arg_pin : Md.arg .pin = .pin := rfl
@[simp] theorem arg_lock : Md.arg .lock = .lock := rfl
@[simp] theorem arg_bor {p : List Nat} : Md.arg (.bor p) = .lock := rfl
@[simp] theorem unb_free : Md.unb .free = .free := rfl
@[simp] theorem unb_pin : Md.unb .pin = .pin := rfl
@[simp] theorem unb_lock : Md.unb .lock = .lock := rfl
@[simp] theorem unb_bor {p : List Nat} : Md.unb (.bor p) = .pin := rfl
noncomputable def Md.ow : Md → Bool
  | .free => true
  | .pin => true
  | _ => false
@[simp] theorem ow_free : Md.ow .free = true := rfl
@[simp] theorem ow_pin : Md.ow .pin = true := rfl
theorem ow_arg : ∀ {m : Md}, m.ow = true → m.arg = m
  | .free, _ => rfl
  | .pin, _ => rfl
@[simp] theorem argSls_nil : argSls ρ [] = some [] := rfl
@[simp] theorem argSls_d {d : PyData} {rs : List Rv} : argSls ρ (.d d :: rs) = (argSls ρ rs).map (.val d :: ·) := by
  simp only [argSls, argSl]
  cases argSls ρ rs <;> rfl
@[simp] theorem argSls_o {i : Nat} {rs : List Rv} : argSls ρ (.o i :: rs) = match ρ[i]? with
    | some (.own m t) => (argSls ρ rs).map (.own m.arg t :: ·)
    | _ => none := by
  simp only [argSls, argSl]
  cases h : ρ[i]? with
  | none => rfl
  | some s => cases s <;> (try rfl); cases argSls ρ rs <;> rfl
@[simp] theorem oneEach_nil : oneEach [] = true := rfl
@[simp] theorem oneEach_d {d : PyData} {rs : List Rv} : oneEach (.d d :: rs) = oneEach rs := rfl
@[simp] theorem oneEach_o {j : Nat} {rs : List Rv} : oneEach (.o j :: rs) = ((posOf rs j).isNone && oneEach rs) := rfl
@[simp] theorem posOf_nil {i : Nat} : posOf [] i = none := rfl
@[simp] theorem posOf_d {d : PyData} {rs : List Rv} {i : Nat} : posOf (.d d :: rs) i = (posOf rs i).map (· + 1) := rfl
@[simp] theorem posOf_o {j : Nat} {rs : List Rv} {i : Nat} : posOf (.o j :: rs) i = if j = i then some 0 else (posOf rs i).map (· + 1) := rfl
@[simp] theorem allIn_nil {Ts : List Nat} : allIn Ts [] = true := rfl
@[simp] theorem allIn_d {Ts : List Nat} {d : PyData} {rs : List Rv} : allIn Ts (.d d :: rs) = allIn Ts rs := rfl
@[simp] theorem allIn_o {Ts : List Nat} {j : Nat} {rs : List Rv} : allIn Ts (.o j :: rs) = (Ts.contains j && allIn Ts rs) := rfl
@[simp] theorem mrg_nil {os : List Sl} : mrg [] os = [] := rfl
@[simp] theorem mrg_val {d : PyData} {as os : List Sl} : mrg (.val d :: as) os = .val d :: mrg as os.tail := rfl
@[simp] theorem mrg_own {m m' : Md} {t t' : Tr} {as os : List Sl} : mrg (.own m t :: as) (.own m' t' :: os) = .own m'.unb t' :: mrg as os := rfl
@[simp] theorem backOk_nil {os : List Sl} : backOk [] os = true := rfl
@[simp] theorem backOk_own {m m' : Md} {t t' : Tr} {as os : List Sl} : backOk (.own m t :: as) (.own m' t' :: os) = backOk as os := rfl
@[simp] theorem backOk_val {d : PyData} {s : Sl} {as os : List Sl} : backOk (.val d :: as) (s :: os) = backOk as os := rfl
@[simp] theorem wb_eq {rs : List Rv} {os : List Sl} : wb ρ rs os = wbGo rs os 0 ρ := rfl
@[simp] theorem wbGo_nil {rs : List Rv} {os : List Sl} {i : Nat} : wbGo rs os i [] = [] := rfl
@[simp] theorem wbGo_cons {rs : List Rv} {os : List Sl} {i : Nat} {s : Sl} : wbGo rs os i (s :: ρ) = (match posOf rs i with
    | some k => wb1 s os[k]?
    | none => s) :: wbGo rs os (i + 1) ρ := rfl
@[simp] theorem wb1_own {m m' : Md} {t t' : Tr} : wb1 (.own m t) (some (.own m' t')) = .own m t' := rfl
theorem wbGo_no {rs : List Rv} {os : List Sl} (h : ∀ i, posOf rs i = none) : ∀ {ρ : Rho} {i : Nat}, wbGo rs os i ρ = ρ
  | [], _ => rfl
  | s :: ρ, i => by rw [wbGo_cons, h, wbGo_no h]
noncomputable def frB : Option Sl → Bool
  | some (.own .pin _) => false
  | some (.own .lock _) => false
  | some (.own (.bor _) _) => false
  | some _ => true
  | none => false
@[simp] theorem frB_al {i : Nat} {p : List Nat} : frB (some (.al i p)) = true := rfl
@[simp] theorem frB_bor {p : List Nat} {t : Tr} : frB (some (.own (.bor p) t)) = false := rfl
@[simp] theorem frB_no : frB (some .no) = true := rfl
@[simp] theorem frB_val {d : PyData} : frB (some (.val d)) = true := rfl
@[simp] theorem frB_free {t : Tr} : frB (some (.own .free t)) = true := rfl
@[simp] theorem frB_pin {t : Tr} : frB (some (.own .pin t)) = false := rfl
@[simp] theorem frB_lock {t : Tr} : frB (some (.own .lock t)) = false := rfl
@[simp] theorem setSl_eq {i : Nat} {s : Sl} : setSl ρ i s = if frB ρ[i]? = true then some (ρ.set i s) else none := by
  unfold setSl
  cases h : ρ[i]? with
  | none => rfl
  | some x =>
    cases x with
    | no => rfl
    | al _ _ => rfl
    | val d => rfl
    | own m t => cases m <;> rfl
@[simp] theorem okR_ite {c : Prop} [Decidable c] {a : Rho} {Q : Rho → Prop} : okR (if c then some a else none) Q ↔ c ∧ Q a := by
  by_cases h : c <;> simp [h]
@[simp] theorem gN_eq {i : Nat} {d : PyData} : gN i d ρ = setSl ρ i (.val d) := rfl
@[simp] theorem gT_eq {n : Nat} {Gs : MGs} {ds : List PyData} : gT n Gs (.tuple ds) ρ = if ds.length = n then Gs ds ρ else none := rfl
@[simp] theorem gsN_eq : gsN [] ρ = some ρ := rfl
@[simp] theorem gsC_eq {G : MG} {Gs : MGs} {d : PyData} {r : List PyData} : gsC G Gs (d :: r) ρ = match G d ρ with
    | some ρ1 => Gs r ρ1
    | none => none := rfl
@[simp] theorem okM_pVar {i : Nat} {Q : Nat × List Nat → Rho → Prop} : okM (pVar i ρ) Q ↔ okO (match ρ[i]? with
  | some (.own _ _) => some (i, ([] : List Nat))
  | _ => none) fun r => Q r ρ := by
  unfold pVar
  cases h : ρ[i]? with
  | none => simp
  | some s => cases s <;> simp
@[simp] theorem treeAt_eq {i : Nat} {p : List Nat} : treeAt ρ (i, p) = match ρ[i]? with
  | some (.own _ t) => t.at p
  | _ => none := rfl
@[simp] theorem at_nil {t : Tr} : t.at [] = some t := by cases t <;> rfl
@[simp] theorem at_cons {t : Tr} {j : Nat} {p : List Nat} : t.at (j :: p) = match (kids t)[j]? with
    | some k => k.at p
    | none => none := by cases t <;> rfl
@[simp] theorem put_nil {t t' : Tr} : t.put [] t' = t' := by cases t <;> rfl
@[simp] theorem put_cons {t t' : Tr} {j : Nat} {p : List Nat} : t.put (j :: p) t' = match (kids t)[j]? with
    | some k => setKid t j (k.put p t')
    | none => t := by cases t <;> rfl
@[simp] theorem kids_lst {ts : List Tr} : kids (.lst ts) = ts := rfl
@[simp] theorem kids_tup {ts : List Tr} : kids (.tup ts) = ts := rfl
@[simp] theorem setKid_lst {ts : List Tr} {j : Nat} {t : Tr} : setKid (.lst ts) j t = .lst (ts.set j t) := rfl
@[simp] theorem modeOk_eq {i : Nat} : modeOk ρ i = match ρ[i]? with
  | some (.own m _) => m.ow
  | _ => false := by
  unfold modeOk
  cases ρ[i]? with
  | none => rfl
  | some s => cases s with
    | own m t => cases m <;> rfl
    | _ => rfl
@[simp] theorem putAt_eq {i : Nat} {p : List Nat} {t' : Tr} : putAt ρ (i, p) t' = match ρ[i]? with
  | some (.own m t) => ρ.set i (.own m (t.put p t'))
  | _ => ρ := rfl
@[simp] theorem isLst_l {ts : List Tr} : isLst (some (.lst ts)) = true := rfl
@[simp] theorem okM_cLeaf {f : M (Nat × List Nat)} {Q : Rv → Rho → Prop} : okM (cLeaf f ρ) Q ↔ okM (f ρ) fun r ρ1 => okO (match treeAt ρ1 r with
  | some (.dat d) => some (Rv.d d)
  | _ => none) fun x => Q x ρ1 := by
  unfold cLeaf
  rw [okM_bnd]
  refine okM_congr fun r ρ1 => ?_
  split <;> simp_all
@[simp] theorem okM_cRev {f : M Rv} {Q : Rv → Rho → Prop} : okM (cRev f ρ) Q ↔ okM (f ρ) fun x ρ1 => okO (match x with
  | .d (.tuple ds) => some (Rv.d (.tuple ds.reverse))
  | _ => none) fun y => Q y ρ1 := by
  unfold cRev
  rw [okM_bnd]
  refine okM_congr fun x ρ1 => ?_
  unfold rev1
  split <;> simp_all
@[simp] theorem okM_cCnt {fo fe : M Rv} {Q : Rv → Rho → Prop} : okM (cCnt fo fe ρ) Q ↔ okM (fo ρ) fun x ρ1 => okO (match x with
  | .d (.list ds) => some ds
  | _ => none) fun ds => okM (fe ρ1) fun y ρ2 => okO (rvd y) fun e => (flatD e && ds.all flatD) = true ∧ Q (.d (.int (ds.countP (fun z => PyData.eqv z e) : Nat))) ρ2 := by
  unfold cCnt
  rw [okM_bnd]
  refine okM_congr fun x ρ1 => ?_
  split
  · rename_i ds
    simp only [okO_some]
    rw [okM_bnd]
    refine okM_congr fun y ρ2 => ?_
    unfold cCnt1
    cases y with
    | o i => simp [rvd]
    | d e =>
      simp only [rvd_d, okO_some]
      by_cases h : (flatD e && ds.all flatD) = true
      · rw [if_pos h]
        simp [h]
      · rw [if_neg h]
        simp [h]
  · simp_all
@[simp] theorem okM_cDIn {neg : Bool} {fk : M Rv} {f : M (Nat × List Nat)} {Q : Bool → Rho → Prop} : okM (cDIn neg fk f ρ) Q ↔ okM (fk ρ) fun y ρ1 => okM (f ρ1) fun r ρ2 => okO (rvd y) fun d => okO (treeAt ρ2 r) fun t => okO (dictAt t d) fun z => Q (if neg then !z.isSome else z.isSome) ρ2 := by
  unfold cDIn
  rw [okM_bnd]
  refine okM_congr fun y ρ1 => ?_
  rw [okM_bnd]
  refine okM_congr fun r ρ2 => ?_
  unfold dIn1
  cases y with
  | o i => simp [rvd]
  | d d =>
    cases h : treeAt ρ2 r with
    | none => simp
    | some t =>
      simp only [rvd_d, okO_some]
      cases h2 : dictAt t d <;> simp
@[simp] theorem okM_cDGet {T2 : List Nat} {f : M (Nat × List Nat)} {fk : M Rv} {Q : Rv → Rho → Prop} : okM (cDGet T2 f fk ρ) Q ↔ okM (f ρ) fun r ρ1 => okM (fk ρ1) fun y ρ2 => T2.contains r.1 = false ∧ okO (rvd y) fun d => okO (treeAt ρ2 r) fun t => okO (dictAt t d) fun z => okO z fun z => Q (.d z) ρ2 := by
  unfold cDGet
  rw [okM_bnd]
  refine okM_congr fun r ρ1 => ?_
  rw [okM_bnd]
  refine okM_congr fun y ρ2 => ?_
  unfold dGet1
  by_cases hc : T2.contains r.1 = true
  · rw [if_pos hc, hc]
    simp
  · have hc' : T2.contains r.1 = false := by simpa using hc
    rw [if_neg hc]
    simp only [hc', true_and]
    cases y with
    | o i => simp [rvd]
    | d d =>
      cases h : treeAt ρ2 r with
      | none => simp
      | some t =>
        simp only [rvd_d, okO_some]
        cases h2 : dictAt t d with
        | none => simp
        | some z => cases z <;> simp
@[simp] theorem okM_cDGet2 {T2 : List Nat} {f : M (Nat × List Nat)} {fk fx : M Rv} {Q : Rv → Rho → Prop} : okM (cDGet2 T2 f fk fx ρ) Q ↔ okM (f ρ) fun r ρ1 => isDk (treeAt ρ1 r) = true ∧ okM (fk ρ1) fun y ρ2 => okM (fx ρ2) fun x ρ3 => T2.contains r.1 = false ∧ okO (rvd y) fun d => okO (rvd x) fun u => okO (treeAt ρ3 r) fun t => okO (dictAt t d) fun z => Q (.d (z.getD u)) ρ3 := by
  unfold cDGet2
  rw [okM_bnd]
  refine okM_congr fun r ρ1 => ?_
  by_cases hd : isDk (treeAt ρ1 r) = true
  · rw [if_pos hd]
    simp only [hd, true_and]
    rw [okM_bnd]
    refine okM_congr fun y ρ2 => ?_
    rw [okM_bnd]
    refine okM_congr fun x ρ3 => ?_
    unfold dGet2
    by_cases hc : T2.contains r.1 = true
    · rw [if_pos hc, hc]
      simp
    · have hc' : T2.contains r.1 = false := by simpa using hc
      rw [if_neg hc]
      simp only [hc', true_and]
      cases y with
      | o i => simp [rvd]
      | d d =>
        cases x with
        | o i => simp [rvd]
        | d u =>
          cases h : treeAt ρ3 r with
          | none => simp
          | some t =>
            simp only [rvd_d, okO_some]
            cases h2 : dictAt t d <;> simp
  · rw [if_neg hd]
    simp [hd]
@[simp] theorem okM_nNew {t : Tr} {Q : Tr → Rho → Prop} : okM (nNew t ρ) Q ↔ Q t ρ := okM_ok
theorem okS_app {T2 : List Nat} {f : M (Nat × List Nat)} {g : M Tr} (h : okM (f ρ) fun r ρ1 => isLst (treeAt ρ1 r) = true ∧ okM (g ρ1) fun t ρ2 => (T2.contains r.1 = false ∧ modeOk ρ2 r.1 = true) ∧ ∃ ts, treeAt ρ2 r = some (.lst ts) ∧ small (ts.length + 1) = true ∧ P (.nx (putAt ρ2 r (.lst (ts ++ [t]))))) : okS (sApp T2 f g ρ) P := by
  refine okS_E' (okM_mono h fun r ρ1 p => ?_)
  rw [if_pos p.1]
  refine okS_E' (okM_mono p.2 fun t ρ2 p => ?_)
  obtain ⟨⟨p1, p2⟩, ts, p3, p4, p5⟩ := p
  unfold app1
  simp only [p1, p2, p3, p4, Bool.not_true, Bool.or_false, Bool.false_eq_true, if_false, if_true]
  exact okS_some.mpr p5
theorem okS_setIx {T2 : List Nat} {fe fi : M Rv} {f : M (Nat × List Nat)} (h : okM (fe ρ) fun x ρ1 => okO (rvd x) fun d => okM (f ρ1) fun r ρ2 => okM (fi ρ2) fun y ρ3 => (T2.contains r.1 = false ∧ modeOk ρ3 r.1 = true) ∧ okO (rvi y) fun n => ∃ ts, treeAt ρ3 r = some (.lst ts) ∧ okO (ixN ts.length n) fun j => P (.nx (putAt ρ3 r (.lst (ts.set j (.dat d)))))) : okS (sSetIx T2 fe f fi ρ) P := by
  refine okS_E' (okM_mono h fun x ρ1 p => ?_)
  cases x with
  | o i => simp [rvd] at p
  | d d =>
    simp only [rvd_d, okO_some] at p
    refine okS_E' (okM_mono p fun r ρ2 p => ?_)
    refine okS_E' (okM_mono p fun y ρ3 p => ?_)
    obtain ⟨⟨p1, p2⟩, n, hn, ts, p3, j, p4, p5⟩ := p
    unfold setIx1
    simp only [p1, p2, Bool.not_true, Bool.or_false, Bool.false_eq_true, if_false]
    rw [p3]
    have hy : y = .d (.int n) := by
      cases y with
      | o _ => cases hn
      | d y => cases y <;> cases hn; rfl
    subst hy
    simp only [p4]
    exact okS_some.mpr p5
theorem okS_dput {T2 : List Nat} {fe fk : M Rv} {f : M (Nat × List Nat)} (h : okM (fe ρ) fun x ρ1 => okO (rvd x) fun d => okM (f ρ1) fun r ρ2 => okM (fk ρ2) fun y ρ3 => okS (dPut1 T2 d r y ρ3) P) : okS (sDPut T2 fe f fk ρ) P := by
  refine okS_E' (okM_mono h fun x ρ1 p => ?_)
  cases x with
  | o i => simp [rvd] at p
  | d d =>
    simp only [rvd_d, okO_some] at p
    refine okS_E' (okM_mono p fun r ρ2 p => ?_)
    exact okS_E' (okM_mono p fun y ρ3 p => p)
@[simp] theorem okS_retV {i : Nat} : okS (sRetV i ρ) P ↔ okO (match ρ[i]? with
  | some (.val d) => some (Out.rt (.dat d) ρ)
  | some (.own .free t) => some (.rt t (ρ.set i .no))
  | _ => none) P := Iff.rfl
@[simp] theorem okS_bk : okS (sBk ρ) P ↔ P (.bk ρ) := okS_some
@[simp] theorem okS_ct : okS (sCt ρ) P ↔ P (.ct ρ) := okS_some
@[simp] theorem frzSl_eq {i : Nat} : frzSl ρ i = match ρ[i]? with
  | some (.own .free t) => (t.toD).map fun d => ρ.set i (.val d)
  | some (.val _) => some ρ
  | _ => none := rfl
@[simp] theorem okM_iEnumD {f : M (List Rv)} {Q : List PyData → Rho → Prop} : okM (iEnumD f ρ) Q ↔ okM (f ρ) fun rs ρ1 => okO (match rs with
  | [.d (.list xs)] => some (enumD xs)
  | [.d (.tuple xs)] => some (enumD xs)
  | _ => none) fun xs => Q xs ρ1 := by
  unfold iEnumD
  rw [okM_bnd]
  refine okM_congr fun rs ρ1 => ?_
  split <;> simp
@[simp] theorem okM_iZipD {f : M (List Rv)} {Q : List PyData → Rho → Prop} : okM (iZipD f ρ) Q ↔ okM (f ρ) fun rs ρ1 => okO (match rs with
  | [.d (.list xs), .d (.list ys)] => some (zipD xs ys)
  | [.d (.tuple xs), .d (.tuple ys)] => some (zipD xs ys)
  | _ => none) fun xs => Q xs ρ1 := by
  unfold iZipD
  rw [okM_bnd]
  refine okM_congr fun rs ρ1 => ?_
  split <;> simp
theorem okM_comp {fi : M (List PyData)} {vs : List Nat} {G : MG} {tt : M Bool} {te : M Rv} {Q : Tr → Rho → Prop} (h : okM (fi ρ) fun xs ρ1 => noOwn ρ1 vs = true ∧ okO (compGo vs G tt te xs [] (wipeR ρ1 vs)) fun p => noOwn p.2 vs = true ∧ Q (.lst (p.1.map .dat)) (restR ρ1 p.2 vs)) : okM (nComp fi vs G tt te ρ) Q := by
  unfold nComp
  rw [okM_bnd]
  refine okM_mono h fun xs ρ1 p => ?_
  obtain ⟨p1, ⟨ds, ρ2⟩, e, p2, p3⟩ := p
  unfold comp1
  rw [if_pos p1, e]
  simp only [p2, if_true]
  exact okM_ok.mpr p3
@[simp] theorem noOwn_nil : noOwn ρ [] = true := rfl
@[simp] theorem noOwn_cons {i : Nat} {vs : List Nat} : noOwn ρ (i :: vs) = ((match ρ[i]? with
    | some (.own _ _) => false
    | some (.al _ _) => false
    | _ => true) && noOwn ρ vs) := rfl
@[simp] theorem wipeR_nil : wipeR ρ [] = ρ := rfl
@[simp] theorem wipeR_cons {i : Nat} {vs : List Nat} : wipeR ρ (i :: vs) = (wipeR ρ vs).set i .no := rfl
@[simp] theorem restR_nil {ρ0 : Rho} : restR ρ0 ρ [] = ρ := rfl
@[simp] theorem restR_cons {ρ0 : Rho} {i : Nat} {vs : List Nat} : restR ρ0 ρ (i :: vs) = match ρ0[i]? with
    | some s => (restR ρ0 ρ vs).set i s
    | none => restR ρ0 ρ vs := rfl
@[simp] theorem okM_tYes {Q : Bool → Rho → Prop} : okM (tYesM ρ) Q ↔ Q true ρ := okM_ok
@[simp] theorem okM_cListZip {f : M (List Rv)} {Q : Rv → Rho → Prop} : okM (cListZip f ρ) Q ↔ okM (f ρ) fun rs ρ1 => okM (lzip1 rs ρ1) Q := by
  unfold cListZip
  rw [okM_bnd]
@[simp] theorem okM_lzip1 {x y : Rv} {Q : Rv → Rho → Prop} : okM (lzip1 [x, y] ρ) Q ↔ ∃ ds es, derS ρ x = some (.list ds) ∧ derS ρ y = some (.list es) ∧ ds.length = es.length ∧ Q (.d (.list (zipP ds es))) ρ := by
  unfold lzip1
  simp only
  constructor
  · intro h
    split at h
    · rename_i ds es h1 h2
      split at h
      · rename_i hl
        exact ⟨ds, es, h1, h2, hl, okM_ok.mp h⟩
      · exact (okM_none.mp h).elim
    · exact (okM_none.mp h).elim
  · rintro ⟨ds, es, h1, h2, hl, q⟩
    simp only [h1, h2, hl, if_true]
    exact okM_ok.mpr q
@[simp] theorem okM_nRep {fa fb : M Rv} {Q : Tr → Rho → Prop} : okM (nRep fa fb ρ) Q ↔ okM (fa ρ) fun x ρ1 => okM (fb ρ1) fun y ρ2 => okM (rep1 x y ρ2) Q := by
  unfold nRep
  simp only [okM_bnd]
@[simp] theorem okM_rep1 {ds : List PyData} {k : Int} {Q : Tr → Rho → Prop} : okM (rep1 (.d (.list ds)) (.d (.int k)) ρ) Q ↔ repOk ds k = true ∧ Q (.lst ((repL ds k).map .dat)) ρ := by
  unfold rep1
  simp only [derS_d]
  by_cases h : repOk ds k = true
  · rw [if_pos h]; simp [h]
  · rw [if_neg h]; simp [h]
@[simp] theorem okO_repD {ds : List PyData} {k : Int} {Q : PyData → Prop} : okO (repD (.list ds) (.int k)) Q ↔ repOk ds k = true ∧ Q (.list (repL ds k)) := by
  show okO (if repOk ds k then some (.list (repL ds k)) else none) Q ↔ _
  rw [okO_ite]
@[simp] theorem okO_sortedD {ds : List PyData} {Q : PyData → Prop} : okO (sortedD [.list ds]) Q ↔ sortOk ds = true ∧ Q (.list (sortL ds)) := by
  show okO (if sortOk ds then some (.list (sortL ds)) else none) Q ↔ _
  rw [okO_ite]
@[simp] theorem okO_sumD {ds : List PyData} {Q : PyData → Prop} : okO (sumD [.list ds]) Q ↔ okO (intsD ds) fun ns => Q (.int ns.sum) := by
  show okO ((intsD ds).map fun ns => .int ns.sum) Q ↔ _
  rw [okO_map]
@[simp] theorem intsD_map {ns : List Int} : intsD (ns.map .int) = some ns := by
  induction ns with
  | nil => rfl
  | cons n ns ih => simp [intsD, ih]
@[simp] theorem okM_iOwn {i : Nat} {Q : List PyData → Rho → Prop} : okM (iOwn i ρ) Q ↔ okO (match ρ[i]? with
  | some (.own _ (.lst ts)) => flat ts
  | _ => none) fun xs => Q xs ρ := by
  unfold iOwn
  cases h : ρ[i]? with
  | none => simp
  | some s =>
    cases s with
    | no => simp
    | al _ _ => simp
    | val d => simp
    | own m t =>
      cases t with
      | lst ts => cases hf : flat ts <;> simp [hf]
      | _ => simp
@[simp] theorem okM_nListZip {f : M (List Rv)} {Q : Tr → Rho → Prop} : okM (nListZip f ρ) Q ↔ okM (f ρ) fun rs ρ1 => okM (nzip1 rs ρ1) Q := by
  unfold nListZip
  rw [okM_bnd]
@[simp] theorem okM_nzip1 {x y : Rv} {Q : Tr → Rho → Prop} : okM (nzip1 [x, y] ρ) Q ↔ ∃ ds es, derS ρ x = some (.list ds) ∧ derS ρ y = some (.list es) ∧ ds.length = es.length ∧ Q (.lst ((zipP ds es).map .dat)) ρ := by
  unfold nzip1
  simp only
  constructor
  · intro h
    split at h
    · rename_i ds es h1 h2
      split at h
      · rename_i hl
        exact ⟨ds, es, h1, h2, hl, okM_ok.mp h⟩
      · exact (okM_none.mp h).elim
    · exact (okM_none.mp h).elim
  · rintro ⟨ds, es, h1, h2, hl, q⟩
    simp only [h1, h2, hl, if_true]
    exact okM_ok.mpr q
@[simp] theorem okM_nCat {fa fb : M Rv} {Q : Tr → Rho → Prop} : okM (nCat fa fb ρ) Q ↔ okM (fa ρ) fun x ρ1 => okM (fb ρ1) fun y ρ2 => okM (cat1 x y ρ2) Q := by
  unfold nCat
  simp only [okM_bnd]
@[simp] theorem okM_nDT {fk fv : M Rv} {Q : Tr → Rho → Prop} : okM (nDT fk fv ρ) Q ↔ okM (fk ρ) fun x ρ1 => okM (fv ρ1) fun y ρ2 => okM (mkDT x y ρ2) Q := by
  unfold nDT
  simp only [okM_bnd]
@[simp] theorem okM_nCallT {F : Fn} {g : M Tr} {Q : Tr → Rho → Prop} : okM (nCallT F g ρ) Q ↔ okM (g ρ) fun t ρ1 => okF (F [.own .free t]) fun r _ => Q r ρ1 := by
  unfold nCallT
  rw [okM_bnd]
  refine okM_congr fun t ρ1 => ?_
  unfold call1T
  constructor
  · intro h
    split at h
    · rename_i r outs e
      exact ⟨r, outs, e, okM_ok.mp h⟩
    · exact (okM_none.mp h).elim
  · rintro ⟨r, outs, e, h⟩
    rw [e]
    exact okM_ok.mpr h
@[simp] theorem rdSl_fk {i : Nat} {m : Md} {ts : List (Key × PyData)} : rdSl i (some (.own m (.fk ts))) = some (.o i) := rfl
@[simp] theorem okM_cSortDI {f : M (Nat × List Nat)} {Q : Rv → Rho → Prop} : okM (cSortDI f ρ) Q ↔ okM (f ρ) fun r ρ1 => okO (match treeAt ρ1 r with
  | some (.dk kvs) => intKeys kvs
  | _ => none) fun ks => Q (.d (.list ((sortI ks).map .int))) ρ1 := by
  unfold cSortDI
  rw [okM_bnd]
  refine okM_congr fun r ρ1 => ?_
  cases h : treeAt ρ1 r with
  | none => simp
  | some t =>
    cases t with
    | dk kvs =>
      simp only
      cases hk : intKeys kvs <;> simp
    | _ => simp
theorem okM_lock {i : Nat} {f : M Tr} {Q : Tr → Rho → Prop} {m : Md} {ts : List (Key × Tr)} {ds : List (Key × PyData)} (hi : ρ[i]? = some (.own m (.dk ts))) (hm : m.ow = true) (hd : dats ts = some ds) (k : okM (f (ρ.set i (.own .lock (.fk ds)))) fun t ρ2 => Q t (ρ2.set i (.own m (.dk ts)))) : okM (nLock i f ρ) Q := by
  obtain ⟨t, ρ2, e, q⟩ := k
  have hmo : modeOk ρ i = true := by
    rw [modeOk_eq, hi]
    cases m <;> first | rfl | cases hm
  refine ⟨t, ρ2.set i (.own m (.dk ts)), ?_, q⟩
  unfold nLock lockS
  simp only [hmo, if_true, hi, hd, e]
theorem iKeyF_own {i : Nat} {m : Md} {ds : List (Key × PyData)} (h : ρ[i]? = some (.own m (.fk ds))) : iKeyF i ρ = some (.ok (ds.map fun kv => keyPD kv.1) ρ) := by
  unfold iKeyF
  rw [h]
@[simp] theorem okO_maxTD {d : PyData} {ds : List PyData} {Q : PyData → Prop} : okO (maxTD [.list (d :: ds)]) Q ↔ maxOk (d :: ds) = true ∧ Q (PySem.W.maxD d ds) := by
  show okO (if maxOk (d :: ds) then some (PySem.W.maxD d ds) else none) Q ↔ _
  rw [okO_ite]
@[simp] theorem okM_tNilM {Q : List Tr → Rho → Prop} : okM (tNilM ρ) Q ↔ Q [] ρ := okM_ok
@[simp] theorem okM_tConsM {f : M Tr} {g : M (List Tr)} {Q : List Tr → Rho → Prop} : okM (tConsM f g ρ) Q ↔ okM (f ρ) fun t ρ1 => okM (g ρ1) fun ts ρ2 => Q (t :: ts) ρ2 := by
  unfold tConsM
  simp only [okM_bnd, okM_ret]
theorem okM_small {n : Nat} {t : Tr} {Q : Tr → Rho → Prop} : okM (if small n then some (Er.ok t ρ) else none) Q ↔ small n = true ∧ Q t ρ := by
  split <;> simp_all
@[simp] theorem okM_nTupT {f : M (List Tr)} {Q : Tr → Rho → Prop} : okM (nTupT f ρ) Q ↔ okM (f ρ) fun ts ρ1 => (small ts.length = true ∧ ts.any isNode = true) ∧ Q (.tup ts) ρ1 := by
  unfold nTupT
  simp only [okM_bnd]
  refine okM_congr fun ts ρ1 => ?_
  rw [← Bool.and_eq_true]
  split <;> simp_all
@[simp] theorem isNode_lst {ts : List Tr} : isNode (.lst ts) = true := rfl
@[simp] theorem isNode_tup {ts : List Tr} : isNode (.tup ts) = true := rfl
@[simp] theorem isNode_dat {d : PyData} : isNode (.dat d) = false := rfl
@[simp] theorem okM_nLstT {f : M (List Tr)} {Q : Tr → Rho → Prop} : okM (nLstT f ρ) Q ↔ okM (f ρ) fun ts ρ1 => small ts.length = true ∧ Q (.lst ts) ρ1 := by
  unfold nLstT
  simp only [okM_bnd, okM_small]
end
end VL

end

section
set_option Elab.async false
set_option linter.all false
set_option maxRecDepth 100000
namespace VL
open PySem PySem.Spec PyProof.Rows L2
structure Sh (n : Nat) (d : PyData) : Prop where
  c : d.canLay0 = true
  h : d.depth ≤ n
theorem Sh.mono {n m : Nat} {d : PyData} (h : Sh n d) (hm : n ≤ m) : Sh m d := ⟨h.c, Nat.le_trans h.h hm⟩
theorem Sh.int {i : Int} {n : Nat} : Sh n (.int i) := ⟨by simp [PyData.canLay0], by simp [PyData.depth]⟩
theorem Sh.bool {b : Bool} {n : Nat} : Sh n (.bool b) := ⟨by simp [PyData.canLay0], by simp [PyData.depth]⟩
theorem Sh.none {n : Nat} : Sh n .none := ⟨by simp [PyData.canLay0], by simp [PyData.depth]⟩
theorem Sh.str {s : Str} {n : Nat} (h : PyData.canLay0 (.str s) = true) : Sh n (.str s) := ⟨h, by simp [PyData.depth]⟩
theorem shAll {n : Nat} : ∀ {xs : List PyData}, (∀ x ∈ xs, Sh n x) → PyData.canLayAll0 xs = true ∧ PyData.depthAll xs ≤ n
  | [], _ => ⟨by simp [PyData.canLayAll0], by simp [PyData.depthAll]⟩
  | x :: xs, h => by
    obtain ⟨h1, h2⟩ := shAll (xs := xs) fun y hy => h y (List.mem_cons_of_mem _ hy)
    have h3 := h x List.mem_cons_self
    exact ⟨by simp [PyData.canLayAll0, h1, h3.c], by simp only [PyData.depthAll]; have := h3.h; omega⟩
theorem Sh.tuple {n : Nat} {xs : List PyData} (h : ∀ x ∈ xs, Sh n x) : Sh (n + 1) (.tuple xs) := ⟨by simp [PyData.canLay0, (shAll h).1], by simp [PyData.depth, (shAll h).2]⟩
theorem Sh.list {n : Nat} {xs : List PyData} (h : ∀ x ∈ xs, Sh n x) : Sh (n + 1) (.list xs) := ⟨by simp [PyData.canLay0, (shAll h).1], by simp [PyData.depth, (shAll h).2]⟩
theorem Sh.ok {n : Nat} {d : PyData} (h : Sh n d) (hn : n ≤ 64 := by omega) : SeqAt.shaped d = true := by
  unfold SeqAt.shaped
  rw [h.c, Bool.true_and]
  exact decide_eq_true (Nat.le_trans h.h hn)
@[simp] theorem shaped_int {i : Int} : SeqAt.shaped (.int i) = true := (Sh.int (n := 0)).ok
@[simp] theorem shaped_bool {i : Bool} : SeqAt.shaped (.bool i) = true := (Sh.bool (n := 0)).ok
@[simp] theorem shaped_none : SeqAt.shaped .none = true := (Sh.none (n := 0)).ok
@[simp] theorem okO_eqD {d e : PyData} {Q : Bool → Prop} : okO (eqD d e) Q ↔ (SeqAt.shaped d && SeqAt.shaped e) = true ∧ Q (PyData.eqv d e) := by
  unfold eqD
  rw [okO_ite]
@[simp] theorem okO_neD {d e : PyData} {Q : Bool → Prop} : okO (neD d e) Q ↔ (SeqAt.shaped d && SeqAt.shaped e) = true ∧ Q (!PyData.eqv d e) := by
  unfold neD
  rw [okO_ite]
@[simp] theorem okO_inL {d : PyData} {ds : List PyData} {Q : Bool → Prop} : okO (inD d (.list ds)) Q ↔ (SeqAt.shaped d && SeqAt.shaped (.list ds)) = true ∧ Q (ds.any fun z => PyData.eqv z d) := by
  unfold inD
  rw [okO_ite]
@[simp] theorem okO_inT {d : PyData} {ds : List PyData} {Q : Bool → Prop} : okO (inD d (.tuple ds)) Q ↔ (flatD d && ds.all flatD) = true ∧ Q (ds.any fun z => PyData.eqv z d) := by
  unfold inD
  rw [okO_ite]
@[simp] theorem okO_notIn {d e : PyData} {Q : Bool → Prop} : okO (notInD d e) Q ↔ okO (inD d e) fun b => Q (!b) := by
  unfold notInD
  rw [okO_map]
theorem eqv_self {d : PyData} (h : SeqAt.shaped d = true) : PyData.eqv d d = true := SeqAt.eqv_refl d (SeqAt.canLay_of_shaped h)
@[simp] theorem eqv_ii {i j : Int} : PyData.eqv (.int i) (.int j) = (i == j) := by simp [PyData.eqv]
@[simp] theorem eqv_bb {i j : Bool} : PyData.eqv (.bool i) (.bool j) = (i == j) := by simp [PyData.eqv]
@[simp] theorem eqv_ss {i j : Str} : PyData.eqv (.str i) (.str j) = (i == j) := by simp [PyData.eqv]
@[simp] theorem isND_i {i : Int} : isND (.int i) .none = some false := rfl
@[simp] theorem isND_n : isND .none .none = some true := rfl
@[simp] theorem isND_s {i : Str} : isND (.str i) .none = some false := rfl
@[simp] theorem isND_b {i : Bool} : isND (.bool i) .none = some false := rfl
@[simp] theorem isND_t {i : List PyData} : isND (.tuple i) .none = some false := rfl
@[simp] theorem isND_l {i : List PyData} : isND (.list i) .none = some false := rfl
@[simp] theorem notND_eq {d e : PyData} : notND d e = (isND d e).map (!·) := rfl
@[simp] theorem isiD_i {B : BT} {i : Int} : isiD B (.int i) = some (match B with | .int => true | _ => false) := rfl
@[simp] theorem isiD_b {B : BT} {i : Bool} : isiD B (.bool i) = some (match B with | .int => true | .bool => true | _ => false) := rfl
@[simp] theorem isiD_s {B : BT} {i : Str} : isiD B (.str i) = some (match B with | .str => true | _ => false) := rfl
@[simp] theorem isiD_n {B : BT} : isiD B .none = some false := rfl
@[simp] theorem isiD_t {B : BT} {i : List PyData} : isiD B (.tuple i) = some (match B with | .tuple => true | _ => false) := rfl
@[simp] theorem isiD_l {B : BT} {i : List PyData} : isiD B (.list i) = some (match B with | .list => true | _ => false) := rfl
mutual
noncomputable def sameB : PyData → PyData → Bool
  | .none, .none => true
  | .bool a, .bool b => a == b
  | .int a, .int b => a == b
  | .str a, .str b => decide (a = b)
  | .list a, .list b => sameBs a b
  | .tuple a, .tuple b => sameBs a b
  | _, _ => false
noncomputable def sameBs : List PyData → List PyData → Bool
  | [], [] => true
  | a :: as, b :: bs => sameB a b && sameBs as bs
  | _, _ => false
end
mutual
theorem sameB_ok : ∀ {a b : PyData}, sameB a b = true → a = b
  | .none, b, h => by cases b <;> simp [sameB] at h ⊢
  | .bool a, b, h => by cases b <;> simp [sameB] at h ⊢; exact h
  | .int a, b, h => by cases b <;> simp [sameB] at h ⊢; exact h
  | .str a, b, h => by cases b <;> simp [sameB] at h ⊢; exact h
  | .list a, b, h => by cases b <;> simp [sameB] at h ⊢; exact sameBs_ok h
  | .tuple a, b, h => by cases b <;> simp [sameB] at h ⊢; exact sameBs_ok h
  | .dict a, b, h => by cases b <;> simp [sameB] at h
theorem sameBs_ok : ∀ {a b : List PyData}, sameBs a b = true → a = b
  | [], b, h => by cases b <;> simp [sameBs] at h ⊢
  | a :: as, b, h => by
    cases b with
    | nil => simp [sameBs] at h
    | cons b bs =>
      simp only [sameBs, Bool.and_eq_true] at h
      rw [sameB_ok h.1, sameBs_ok h.2]
end
end VL

end

section
set_option Elab.async false
set_option linter.all false
set_option maxRecDepth 100000
namespace VL
open PySem PySem.Spec PyProof.Rows L2
noncomputable def gBag : MS := (sSeq (sSet 2 (cD (.int 0)))
  (sSeq (sIf (cCmp ltD (cVar 1) (cCall lenD (aCons (cVar 0) aNil))) (sSet 2 (cBin modD (cBin subD (cVar 0) (cVar 1)) (cBin mulD (cBin powD (cD (.int 10)) (cD (.int 60))) (cBin powD (cD (.int 10)) (cD (.int 60)))))) sNil)
  (sSeq (sIf (cCmp ltD (cVar 2) (cBin powD (cD (.int 10)) (cD (.int 18)))) (sRet (nLst (aCons (cD (.int 0)) (aCons (cBin addD (cD (.int 1)) (cBin modD (cBin addD (cBin mulD (cVar 2) (cD (.int 7919))) (cBin mulD (cD (.int 104729)) (cVar 1))) (cD (.int 2147483646)))) aNil)))) sNil)
  (sRet (nLst (aCons (cVar 2) (aCons (cBin addD (cD (.int 1)) (cBin modD (cBin addD (cVar 2) (cVar 1)) (cD (.int 2147483646)))) aNil)))))))
noncomputable def gTake : MS := (sSeq (sIf (cCmp gtD (cBin subD (cVar 0) (cD (.int 0))) (cD (.int 0))) (sSeq (sSet 2 (cBin modD (cBin subD (cVar 0) (cD (.int 0))) (cVar 1)))
  (sSeq (sSetIx [] (cBin fdivD (cBin subD (cVar 0) (cD (.int 0))) (cVar 1)) (pVar 0) (cD (.int 0)))
  (sRetV 2))) sNil)
  (sSeq (sSetIx [] (cBin modD (cBin mulD (cBin subD (cVar 0) (cD (.int 1))) (cD (.int 48271))) (cD (.int 2147483647))) (pVar 0) (cD (.int 1)))
  (sRet (nDat (cBin modD (cBin fdivD (cBin modD (cBin mulD (cBin subD (cVar 0) (cD (.int 1))) (cBin subD (cVar 0) (cD (.int 1)))) (cD (.int 2147483629))) (cD (.int 64))) (cVar 1))))))
noncomputable def fBag : Fn := runF 3 gBag
noncomputable def fTake : Fn := runF 3 gTake
noncomputable def sIn : Str := ⟨#[105, 110]⟩
noncomputable def sOut : Str := ⟨#[111, 117, 116]⟩
noncomputable def sChin : Str := ⟨#[99, 104, 105, 110]⟩
noncomputable def sBrow : Str := ⟨#[98, 114, 111, 119]⟩
noncomputable def gShowing : MS := (sRet (nDat (cTup (aCons (cBin addD (cD (.int 1)) (cFrz (nCall [0] 2 fTake (aCons (cVar 0) (aCons (cD (.int 9)) aNil))))) (aCons (cBin subD (cFrz (nLst (aCons (cD (.str sChin)) (aCons (cD (.str sChin)) (aCons (cD (.str sBrow)) aNil))))) (cFrz (nCall [0] 2 fTake (aCons (cVar 0) (aCons (cD (.int 3)) aNil))))) aNil)))))
noncomputable def fShowing : Fn := runF 1 gShowing
noncomputable def gSign : MS := (sSeq (sSet 1 (cBin subD (cFrz (nLst (aCons (cD (.str sIn)) (aCons (cD (.str sOut)) aNil)))) (cFrz (nCall [0] 2 fTake (aCons (cVar 0) (aCons (cD (.int 2)) aNil))))))
  (sRet (nDat (cBin addD (cTup (aCons (cVar 1) (aCons (cFrz (nCall [0] 2 fTake (aCons (cVar 0) (aCons (cD (.int 10)) aNil)))) aNil))) (cFrz (nCall [0] 1 fShowing (aCons (cVar 0) aNil)))))))
noncomputable def fSign : Fn := runF 2 gSign
inductive BagT : Tr → Prop where
  | mk {c s : Int} (c0 : 0 ≤ c) (s0 : 0 ≤ s) (s1 : s < 2147483648) : BagT (.lst [.dat (.int c), .dat (.int s)])
theorem mod2 {s : Int} (h0 : 0 ≤ s) (h1 : s < 2147483648) : 0 ≤ s * 48271 % 2147483647 ∧ s * 48271 % 2147483647 < 2147483648 := by omega
theorem ixN_nat {n : Nat} {i : Int} (h0 : 0 ≤ i) (h1 : i < n) : ixN n i = some i.toNat := by
  unfold ixN
  rw [if_pos h0, if_pos h1]
@[simp] theorem ixN_cast {n k : Nat} (h : k < n) : ixN n (k : Int) = some k := by
  rw [ixN_nat (by omega) (by omega), Int.toNat_natCast]
@[simp] theorem ixN_0 {n : Nat} (h : 0 < n) : ixN n 0 = some 0 := ixN_nat (by omega) (by omega)
@[simp] theorem ixN_1 {n : Nat} (h : 1 < n) : ixN n 1 = some 1 := ixN_nat (by omega) (by omega)
theorem atI_nat {α : Type} {xs : List α} {i : Int} (h0 : 0 ≤ i) (h1 : i < xs.length) : atI xs i = xs[i.toNat]? := by
  unfold atI
  rw [ixN_nat h0 h1]
  rfl
@[simp] theorem atI_cast {α : Type} {xs : List α} {k : Nat} (h : k < xs.length) : atI xs (k : Int) = xs[k]? := by
  rw [atI_nat (by omega) (by omega), Int.toNat_natCast]
@[simp] theorem atI_0 {α : Type} {xs : List α} (h : 0 < xs.length) : atI xs 0 = xs[0]? := by
  unfold atI
  rw [ixN_0 h]
  rfl
@[simp] theorem atI_1 {α : Type} {xs : List α} (h : 1 < xs.length) : atI xs 1 = xs[1]? := by
  unfold atI
  rw [ixN_1 h]
  rfl
@[simp] theorem ixN_2 {n : Nat} (h : 2 < n) : ixN n 2 = some 2 := ixN_nat (by omega) (by omega)
@[simp] theorem atI_2 {α : Type} {xs : List α} (h : 2 < xs.length) : atI xs 2 = xs[2]? := by
  unfold atI
  rw [ixN_2 h]
  rfl
@[simp] theorem ixN_3 {n : Nat} (h : 3 < n) : ixN n 3 = some 3 := ixN_nat (by omega) (by omega)
@[simp] theorem atI_3 {α : Type} {xs : List α} (h : 3 < xs.length) : atI xs 3 = xs[3]? := by
  unfold atI
  rw [ixN_3 h]
  rfl
@[simp] theorem ixN_4 {n : Nat} (h : 4 < n) : ixN n 4 = some 4 := ixN_nat (by omega) (by omega)
@[simp] theorem atI_4 {α : Type} {xs : List α} (h : 4 < xs.length) : atI xs 4 = xs[4]? := by
  unfold atI
  rw [ixN_4 h]
  rfl
@[simp] theorem ixN_5 {n : Nat} (h : 5 < n) : ixN n 5 = some 5 := ixN_nat (by omega) (by omega)
@[simp] theorem atI_5 {α : Type} {xs : List α} (h : 5 < xs.length) : atI xs 5 = xs[5]? := by
  unfold atI
  rw [ixN_5 h]
  rfl
@[simp] theorem ixN_6 {n : Nat} (h : 6 < n) : ixN n 6 = some 6 := ixN_nat (by omega) (by omega)
@[simp] theorem atI_6 {α : Type} {xs : List α} (h : 6 < xs.length) : atI xs 6 = xs[6]? := by
  unfold atI
  rw [ixN_6 h]
  rfl
@[simp] theorem ixN_7 {n : Nat} (h : 7 < n) : ixN n 7 = some 7 := ixN_nat (by omega) (by omega)
@[simp] theorem atI_7 {α : Type} {xs : List α} (h : 7 < xs.length) : atI xs 7 = xs[7]? := by
  unfold atI
  rw [ixN_7 h]
  rfl
@[simp] theorem ixN_8 {n : Nat} (h : 8 < n) : ixN n 8 = some 8 := ixN_nat (by omega) (by omega)
@[simp] theorem atI_8 {α : Type} {xs : List α} (h : 8 < xs.length) : atI xs 8 = xs[8]? := by
  unfold atI
  rw [ixN_8 h]
  rfl
@[simp] theorem ixN_9 {n : Nat} (h : 9 < n) : ixN n 9 = some 9 := ixN_nat (by omega) (by omega)
@[simp] theorem atI_9 {α : Type} {xs : List α} (h : 9 < xs.length) : atI xs 9 = xs[9]? := by
  unfold atI
  rw [ixN_9 h]
  rfl
theorem take_ok {m : Md} {t : Tr} {n : Int} (hm : m.ow = true) (hb : BagT t) (hn : 0 < n) (hl : n.natAbs < lim) {Q : Tr → List Sl → Prop} (k : ∀ r t', 0 ≤ r → r < n → BagT t' → Q (.dat (.int r)) [.own .pin t', .val (.int n)]) :
    okF (fTake [.own m t, .val (.int n)]) Q := by
  obtain ⟨h0, h1, h2⟩ := hb
  rename_i c s
  have hp : pinS (.own m (.lst [.dat (.int c), .dat (.int s)])) = .own .pin (.lst [.dat (.int c), .dat (.int s)]) := by cases m <;> first | rfl | cases hm
  refine okF_run ?_
  simp only [entry, List.map_cons, List.map_nil, hp]
  unfold gTake
  rw [okS_seq]
  refine okS_if ?_
  simp
  split
  · rw [okS_seq]
    refine okS_set ?_
    simp [hn]
    rw [okS_seq]
    refine okS_setIx ?_
    simp [hn, hl]
    exact k _ _ (Int.emod_nonneg _ (by omega)) (Int.emod_lt_of_pos _ hn) ⟨Int.ediv_nonneg h0 (by omega), h1, h2⟩
  · rw [okS_seq]
    refine okS_setIx ?_
    simp
    refine ⟨⟨lt_lim (by omega) (by omega), by decide +kernel⟩, ?_⟩
    refine okS_ret ?_
    have hs := mod2 h1 h2
    generalize s * 48271 % 2147483647 = z at hs ⊢
    simp [hn]
    refine ⟨lt_lim (by omega) (by omega), by decide +kernel, ?_⟩
    exact k _ _ (Int.emod_nonneg _ (by omega)) (Int.emod_lt_of_pos _ hn) ⟨h0, hs.1, hs.2⟩
theorem bag_ok {ns : List Int} {i : Nat} (hi : i ≤ 40) {Q : Tr → List Sl → Prop} (k : ∀ t, BagT t → Q t [.val (scrD ns), .val (.int i)]) :
    okF (fBag [.val (scrD ns), .val (.int i)]) Q := by
  refine okF_run ?_
  simp only [entry, List.map_cons, List.map_nil, pinS_val]
  unfold gBag
  rw [okS_seq]
  refine okS_set ?_
  simp
  rw [okS_seq]
  refine okS_if ?_
  have fin : ∀ z : Int, 0 ≤ z → okS (sSeq (sIf (cCmp ltD (cVar 2) (cBin powD (cD (.int 10)) (cD (.int 18)))) (sRet (nLst (aCons (cD (.int 0)) (aCons (cBin addD (cD (.int 1)) (cBin modD (cBin addD (cBin mulD (cVar 2) (cD (.int 7919))) (cBin mulD (cD (.int 104729)) (cVar 1))) (cD (.int 2147483646)))) aNil)))) sNil)
      (sRet (nLst (aCons (cVar 2) (aCons (cBin addD (cD (.int 1)) (cBin modD (cBin addD (cVar 2) (cVar 1)) (cD (.int 2147483646)))) aNil)))) [.val (scrD ns), .val (.int i), .val (.int z)]) fun o => match o with
        | .nx ρ' => Q (.dat .none) (ρ'.take 2)
        | .rt t ρ' => Q t (ρ'.take 2)
        | _ => False := by
    intro z hz
    rw [okS_seq]
    refine okS_if ?_
    simp
    split
    · rename_i h
      refine okS_ret ?_
      simp
      have e := @lt_lim i (by omega) (by omega)
      refine ⟨⟨lt_lim (by omega) (by omega), by decide +kernel⟩, ⟨by decide +kernel, by simpa using e⟩, ?_⟩
      exact k _ ⟨by omega, by omega, by omega⟩
    · refine okS_ret ?_
      simp
      exact k _ ⟨hz, by omega, by omega⟩
  simp
  split
  · rename_i h
    refine okS_set ?_
    simp [h]
    exact ⟨by decide +kernel, fin _ (Int.emod_nonneg _ (by decide))⟩
  · exact fin 0 (by omega)
theorem okM_take {ρ : Rho} {i : Nat} {m : Md} {t : Tr} {n : Int} {T : List Nat} {P : Tr → Rho → Prop} (hi : ρ[i]? = some (.own m t)) (hm : m.ow = true) (hT : T.contains i = true) (hb : BagT t) (hn : 0 < n) (hl : n.natAbs < lim) (k : ∀ r t', 0 ≤ r → r < n → BagT t' → P (.dat (.int r)) (ρ.set i (.own m t'))) :
    okM (callN T 2 fTake [.o i, .d (.int n)] ρ) P := by
  rw [okM_callN]
  simp only [argSls_o, hi, argSls_d, argSls_nil, Option.map_some, okO_some, List.length_cons, List.length_nil, oneEach_o, oneEach_d, oneEach_nil, posOf_d, posOf_nil, Option.map_none, Option.isNone_none, Bool.and_self, allIn_o, allIn_d, allIn_nil, hT, true_and]
  rw [ow_arg hm]
  refine take_ok hm hb hn hl fun r t' h0 h1 ht => ?_
  simp only [mrg_own, unb_pin, mrg_val, mrg_nil, backOk_own, backOk_val, backOk_nil, true_and]
  have e : wb ρ [.o i, .d (.int n)] [.own .pin t', .val (.int n)] = ρ.set i (.own m t') := by
    apply List.ext_getElem?
    intro j
    rw [wb_eq, wbGo_get, Nat.zero_add]
    by_cases hj : i = j
    · subst hj
      have hlen : i < ρ.length := (List.getElem?_eq_some_iff.mp hi).1
      rw [hi, List.getElem?_set_self hlen]
      simp
    · rw [List.getElem?_set_ne hj]
      simp [hj]
  rw [e]
  exact k r t' h0 h1 ht
inductive IsShow : PyData → Prop where
  | mk {f : Int} {p : Str} (h0 : 1 ≤ f) (h1 : f ≤ 9) (hp : p = sChin ∨ p = sBrow) : IsShow (.tuple [.int f, .str p])
inductive IsSign : PyData → Prop where
  | mk {a p : Str} {c f : Int} (ha : a = sIn ∨ a = sOut) (c0 : 0 ≤ c) (c1 : c ≤ 9) (h0 : 1 ≤ f) (h1 : f ≤ 9) (hp : p = sChin ∨ p = sBrow) : IsSign (.tuple [.str a, .int c, .int f, .str p])
theorem showing_ok {m : Md} {t : Tr} (hm : m.ow = true) (hb : BagT t) {Q : Tr → List Sl → Prop} (k : ∀ d t', IsShow d → BagT t' → Q (.dat d) [.own .pin t']) : okF (fShowing [.own m t]) Q := by
  have hp : pinS (.own m t) = .own .pin t := by cases m <;> first | rfl | cases hm
  refine okF_run ?_
  simp only [entry, List.map_cons, List.map_nil, hp]
  unfold gShowing
  refine okS_ret ?_
  obtain ⟨h0, h1, h2⟩ := hb
  simp [-okM_callN]
  refine okM_take rfl (by simp) rfl ⟨h0, h1, h2⟩ (by omega) (lt_lim (by omega) (by omega)) fun r t' r0 r1 ht => ?_
  obtain ⟨g0, g1, g2⟩ := ht
  simp [-okM_callN]
  refine okM_take rfl (by simp) rfl ⟨g0, g1, g2⟩ (by omega) (lt_lim (by omega) (by omega)) fun u t' u0 u1 ht => ?_
  have hu : u = 0 ∨ u = 1 ∨ u = 2 := by omega
  rcases hu with rfl | rfl | rfl
  · simp
    exact k _ _ ⟨by omega, by omega, .inl rfl⟩ ht
  · simp
    exact k _ _ ⟨by omega, by omega, .inl rfl⟩ ht
  · simp
    exact k _ _ ⟨by omega, by omega, .inr rfl⟩ ht
theorem wb_one {ρ : Rho} {i : Nat} {m m' : Md} {t t' : Tr} {rs : List Rv} {os : List Sl} {k : Nat} (hi : ρ[i]? = some (.own m t)) (hp : posOf rs i = some k) (ho : ∀ j, j ≠ i → posOf rs j = none) (hk : os[k]? = some (.own m' t')) : wb ρ rs os = ρ.set i (.own m t') := by
  apply List.ext_getElem?
  intro j
  rw [wb_eq, wbGo_get, Nat.zero_add]
  by_cases hj : i = j
  · subst hj
    have hlen : i < ρ.length := (List.getElem?_eq_some_iff.mp hi).1
    rw [hi, List.getElem?_set_self hlen, hp]
    simp [hk]
  · rw [List.getElem?_set_ne hj, ho j (Ne.symm hj)]
    simp
theorem okM_bag1 {F : Fn} {ρ : Rho} {i : Nat} {m : Md} {t : Tr} {T : List Nat} {P : Tr → Rho → Prop} (hi : ρ[i]? = some (.own m t)) (hT : T.contains i = true) (k : okF (F [.own m.arg t]) fun r outs => ∃ t', outs = [.own .pin t'] ∧ P r (ρ.set i (.own m t'))) :
    okM (callN T 1 F [.o i] ρ) P := by
  rw [okM_callN]
  simp only [argSls_o, hi, argSls_nil, Option.map_some, okO_some, List.length_cons, List.length_nil, oneEach_o, oneEach_nil, posOf_nil, Option.isNone_none, Bool.and_self, allIn_o, allIn_nil, hT, true_and]
  refine okF_mono k ?_
  rintro r outs ⟨t', rfl, p⟩
  simp only [mrg_own, unb_pin, mrg_nil, backOk_own, backOk_nil, true_and]
  rw [wb_one (k := 0) hi (by simp) (fun j hj => by simp [Ne.symm hj]) rfl]
  exact p
theorem okM_showing {ρ : Rho} {i : Nat} {m : Md} {t : Tr} {T : List Nat} {P : Tr → Rho → Prop} (hi : ρ[i]? = some (.own m t)) (hm : m.ow = true) (hT : T.contains i = true) (hb : BagT t) (k : ∀ d t', IsShow d → BagT t' → P (.dat d) (ρ.set i (.own m t'))) :
    okM (callN T 1 fShowing [.o i] ρ) P := okM_bag1 hi hT (by rw [ow_arg hm]; exact showing_ok hm hb fun d t' h h' => ⟨t', rfl, k d t' h h'⟩)
theorem sign_ok {m : Md} {t : Tr} (hm : m.ow = true) (hb : BagT t) {Q : Tr → List Sl → Prop} (k : ∀ d t', IsSign d → BagT t' → Q (.dat d) [.own .pin t']) : okF (fSign [.own m t]) Q := by
  have hp : pinS (.own m t) = .own .pin t := by cases m <;> first | rfl | cases hm
  refine okF_run ?_
  simp only [entry, List.map_cons, List.map_nil, hp]
  unfold gSign
  rw [okS_seq]
  refine okS_set ?_
  obtain ⟨h0, h1, h2⟩ := hb
  simp [-okM_callN]
  refine okM_take rfl (by simp) rfl ⟨h0, h1, h2⟩ (by omega) (lt_lim (by omega) (by omega)) fun r t' r0 r1 ht => ?_
  obtain ⟨g0, g1, g2⟩ := ht
  have hr : ∃ a, (a = sIn ∨ a = sOut) ∧ atI [PyData.str sIn, PyData.str sOut] r = some (.str a) := by
    have hu : r = 0 ∨ r = 1 := by omega
    rcases hu with rfl | rfl
    · exact ⟨_, .inl rfl, by simp⟩
    · exact ⟨_, .inr rfl, by simp⟩
  obtain ⟨a, ha, ea⟩ := hr
  simp [ea]
  refine okS_ret ?_
  simp [-okM_callN]
  refine okM_take rfl (by simp) rfl ⟨g0, g1, g2⟩ (by omega) (lt_lim (by omega) (by omega)) fun u t' u0 u1 ht => ?_
  obtain ⟨g0, g1, g2⟩ := ht
  simp [-okM_callN]
  refine okM_showing rfl (by simp) rfl ⟨g0, g1, g2⟩ fun d t' hd ht => ?_
  obtain ⟨d0, d1, d2⟩ := hd
  simp
  exact k _ _ ⟨ha, by omega, by omega, d0, d1, d2⟩ ht
theorem okM_pure {F : Fn} {ρ : Rho} {ds : List PyData} {n : Nat} {T : List Nat} {P : Tr → Rho → Prop} (hn : ds.length = n) (k : okF (F (ds.map .val)) fun r _ => P r ρ) : okM (callN T n F (ds.map .d) ρ) P := by
  have h1 : ∀ ds : List PyData, argSls ρ (ds.map .d) = some (ds.map .val) := fun ds => by
    induction ds with
    | nil => rfl
    | cons d ds ih => simp [ih]
  have h2 : ∀ (ds : List PyData) (i : Nat), posOf (ds.map .d) i = none := fun ds i => by
    induction ds with
    | nil => rfl
    | cons d ds ih => simp [ih]
  have h3 : ∀ ds : List PyData, oneEach (ds.map .d) = true := fun ds => by
    induction ds with
    | nil => rfl
    | cons d ds ih => simp [ih]
  have h4 : ∀ ds : List PyData, allIn T (ds.map .d) = true := fun ds => by
    induction ds with
    | nil => rfl
    | cons d ds ih => simp [ih]
  have h5 : ∀ (ds : List PyData) (os : List Sl), backOk (ds.map .val) (mrg (ds.map .val) os) = true := fun ds => by
    induction ds with
    | nil => intro os; rfl
    | cons d ds ih => intro os; simp [ih]
  rw [okM_callN, h1]
  simp only [okO_some, List.length_map, hn, h3, h4, true_and]
  refine okF_mono k fun r outs p => ⟨h5 _ _, ?_⟩
  rw [wb_eq, wbGo_no (h2 ds)]
  exact p
theorem okM_pure2 {F : Fn} {ρ : Rho} {d e : PyData} {T : List Nat} {P : Tr → Rho → Prop} (k : okF (F [.val d, .val e]) fun r _ => P r ρ) : okM (callN T 2 F [.d d, .d e] ρ) P := okM_pure (ds := [d, e]) rfl k
end VL

end

section
set_option Elab.async false
set_option linter.all false
set_option maxRecDepth 100000
namespace VL
open PySem PySem.Spec PyProof.Rows L2
noncomputable def sBought : Str := ⟨#[98, 111, 117, 103, 104, 116]⟩
theorem eBought : ("bought" : Str) = sBought := by decide +kernel
noncomputable def sSold : Str := ⟨#[115, 111, 108, 100]⟩
theorem eSold : ("sold" : Str) = sSold := by decide +kernel
inductive IsCard (n : Int) : PyData → Prop where
  | mk {w o p c m : Int} {d : Str} (w0 : 0 ≤ w) (w1 : w < n) (o0 : 0 ≤ o) (o1 : o < n) (wo : w ≠ o) (hd : d = sBought ∨ d = sSold) (p0 : 0 ≤ p) (p1 : p ≤ 1000000000) (c0 : 1 ≤ c) (c1 : c ≤ 1000000) (m0 : 0 ≤ m) (m1 : m ≤ 1000000000) :
    IsCard n (.tuple [.int w, .int o, .str d, .int p, .int c, .int m])
@[simp] theorem flatD_i {i : Int} : flatD (.int i) = true := rfl
@[simp] theorem flatD_s {i : Str} : flatD (.str i) = true := rfl
@[simp] theorem flatD_b {i : Bool} : flatD (.bool i) = true := rfl
@[simp] theorem flatD_n : flatD .none = true := rfl
end VL

end

section
set_option Elab.async false
set_option linter.all false
set_option maxRecDepth 100000
namespace VL
open PySem PySem.Spec PyProof.Rows L2
noncomputable def unown : Sl → Bool
  | .own _ _ => false
  | .al _ _ => false
  | _ => true
theorem compGo_map {α : Type} {D : α → PyData} {v : Nat} {G : MG} {tt : M Bool} {te : M Rv} {ρ : Rho} (p : α → Bool) (f : α → PyData) (vs : List Nat) (R : α → Rho) (ρ0 : Rho) :
    ∀ (ds : List α) (acc : List PyData), acc.length + ds.length ≤ 16777216 → (∀ d ∈ ds, G (D d) ρ0 = some (R d) ∧ tt (R d) = some (.ok (p d) (R d)) ∧ (p d = true → te (R d) = some (.ok (.d (f d)) (R d))) ∧ noOwn (R d) vs = true ∧ wipeR (R d) vs = ρ0) →
    compGo vs G tt te (ds.map D) acc ρ0 = some (acc ++ (ds.filter p).map f, ρ0)
  | [], acc, _, _ => by simp [compGo]
  | d :: ds, acc, hl, h => by
    have again := fun acc' hl' => compGo_map (v := v) (G := G) (tt := tt) (te := te) (ρ := ρ) p f vs R ρ0 ds acc' hl' fun y hy => h y (List.mem_cons_of_mem _ hy)
    obtain ⟨e1, e2, e3, e4, e5⟩ := h d List.mem_cons_self
    simp only [List.length_cons] at hl
    rw [List.map_cons]
    unfold compGo
    rw [e1]
    simp only
    rw [e2]
    cases hp : p d with
    | true =>
      simp only [e3 hp, e4, e5, small_of (show acc.length + 1 ≤ 16777216 by omega), Bool.and_self, if_true]
      rw [again (acc ++ [f d]) (by simp; omega)]
      simp [List.filter_cons, hp]
    | false =>
      simp only [e4, e5, if_true]
      rw [again acc (by omega)]
      simp [List.filter_cons, hp]
theorem okM_compM {α : Type} {D : α → PyData} {ds : List α} {fi : M (List PyData)} {v : Nat} {tt : M Bool} {te : M Rv} {ρ : Rho} {Q : Tr → Rho → Prop} {s : Sl} (p : α → Bool) (f : α → PyData) (hi : fi ρ = some (.ok (ds.map D) ρ)) (hl : ds.length ≤ 16777216) (hv : ρ[v]? = some s) (hs : unown s = true)
    (ht : ∀ d ∈ ds, tt (ρ.set v (.val (D d))) = some (.ok (p d) (ρ.set v (.val (D d))))) (he : ∀ d ∈ ds, p d = true → te (ρ.set v (.val (D d))) = some (.ok (.d (f d)) (ρ.set v (.val (D d)))))
    (k : Q (.lst (((ds.filter p).map f).map .dat)) ρ) : okM (nComp fi [v] (gN v) tt te ρ) Q := by
  have hvl : v < ρ.length := (List.getElem?_eq_some_iff.mp hv).1
  refine okM_comp ?_
  rw [hi, okM_ok]
  have n1 : noOwn ρ [v] = true := by
    simp only [noOwn_cons, noOwn_nil, hv, Bool.and_true]
    cases s <;> first | rfl | cases hs
  have nn : noOwn (ρ.set v .no) [v] = true := by
    simp only [noOwn_cons, noOwn_nil, Bool.and_true]
    rw [List.getElem?_set_self hvl]
  refine ⟨n1, ?_⟩
  have w : wipeR ρ [v] = ρ.set v .no := rfl
  rw [w, compGo_map (v := v) (ρ := ρ) p f [v] (fun d => ρ.set v (.val (D d))) (ρ.set v .no) ds [] (by simpa using hl) fun d hd => ⟨?_, ht d hd, he d hd, ?_, ?_⟩]
  · rw [okO_some]
    refine ⟨nn, ?_⟩
    have e : restR ρ (ρ.set v .no) [v] = ρ := by
      simp only [restR_cons, restR_nil, hv]
      rw [List.set_set]
      apply List.ext_getElem?
      intro j
      by_cases hj : v = j
      · subst hj
        rw [List.getElem?_set_self hvl, hv]
      · rw [List.getElem?_set_ne hj]
    rw [e]
    simpa using k
  · rw [gN_eq, setSl_eq, List.getElem?_set_self hvl, frB_no, if_pos rfl, List.set_set]
  · simp only [noOwn_cons, noOwn_nil, Bool.and_true]
    rw [List.getElem?_set_self hvl]
  · simp only [wipeR_cons, wipeR_nil]
    rw [List.set_set]
theorem rd_val {ρ : Rho} {i : Nat} {d : PyData} (h : ρ[i]? = some (.val d)) : cVar i ρ = some (.ok (.d d) ρ) := by unfold cVar; rw [h]
theorem iSeq_val {ρ : Rho} {i : Nat} {ds : List PyData} (h : ρ[i]? = some (.val (.list ds))) : iSeq (cVar i) ρ = some (.ok ds ρ) := by
  unfold iSeq bnd
  rw [rd_val h]
  rfl
theorem okM_eq {α : Type} {o : Option (Er α)} {a : α} {ρ : Rho} {P : α → Rho → Prop} (h : o = some (.ok a ρ)) (k : P a ρ) : okM o P := ⟨a, ρ, h, k⟩
theorem okM_of {α : Type} {o : Option (Er α)} {a : α} {ρ : Rho} (h : okM o fun x ρ1 => x = a ∧ ρ1 = ρ) : o = some (.ok a ρ) := by
  obtain ⟨x, ρ1, e, rfl, rfl⟩ := h
  exact e
noncomputable def tr (xs : List PyData) : Tr := .lst (xs.map .dat)
@[simp] theorem isNode_tr {xs : List PyData} : isNode (tr xs) = true := rfl
theorem at_tr {xs : List PyData} : (tr xs).at [] = some (.lst (xs.map .dat)) := at_nil
theorem toD_tr {xs : List PyData} : (tr xs).toD = some (.list xs) := by unfold tr; rw [toD_lst, toDs_map, Option.map_some]
@[simp] theorem rdSl_tr {i : Nat} {m : Md} {xs : List PyData} : rdSl i (some (.own m (tr xs))) = some (.o i) := rfl
@[simp] theorem dsSl_tr {m : Md} {xs : List PyData} : dsSl (some (.own m (tr xs))) = some (.list xs) := by
  show (flat (xs.map .dat)).map PyData.list = _
  rw [flat_dat]
  rfl
@[simp] theorem der_tr {xs : List PyData} : (tr xs).toD = some (.list xs) := toD_tr
theorem app_ok {ρ : Rho} {P : Out → Prop} {T2 : List Nat} {i : Nat} {m m' : Md} {xs : List PyData} {fe : M Rv} (hi : ρ[i]? = some (.own m (tr xs))) (hT : T2.contains i = false) (hl : xs.length < 16777216) (hm : m'.ow = true)
    (he : okM (fe ρ) fun r ρ1 => ∃ d, r = .d d ∧ ρ1[i]? = some (.own m' (tr xs)) ∧ P (.nx (ρ1.set i (.own m' (tr (xs ++ [d])))))) : okS (sApp T2 (pVar i) (nDat fe) ρ) P := by
  refine okS_app ?_
  rw [okM_pVar, hi]
  simp only [okO_some]
  refine ⟨by rw [treeAt_eq, hi]; simp only [at_tr, isLst_l], ?_⟩
  rw [okM_nDat]
  refine okM_mono he ?_
  rintro r ρ1 ⟨d, rfl, h1, k⟩
  rw [rvd_d, okO_some]
  refine ⟨⟨hT, ?_⟩, xs.map .dat, ?_, ?_, ?_⟩
  · rw [modeOk_eq, h1]
    cases m' <;> first | rfl | cases hm
  · rw [treeAt_eq, h1]; exact at_tr
  · rw [List.length_map]; exact small_of (by omega)
  · rw [putAt_eq, h1]
    simp only [put_nil]
    have e : xs.map Tr.dat ++ [.dat d] = (xs ++ [d]).map .dat := by simp
    rw [e]
    exact k
end VL

end

section
set_option Elab.async false
set_option linter.all false
set_option maxRecDepth 100000
set_option maxHeartbeats 2000000
namespace SM
open PySem
noncomputable def s_BadNumber : Str := ⟨#[66, 97, 100, 78, 117, 109, 98, 101, 114]⟩
theorem e_BadNumber : ("BadNumber" : Str) = s_BadNumber := by decide +kernel
noncomputable def s_Closed : Str := ⟨#[67, 108, 111, 115, 101, 100]⟩
theorem e_Closed : ("Closed" : Str) = s_Closed := by decide +kernel
noncomputable def s_NoBargain : Str := ⟨#[78, 111, 66, 97, 114, 103, 97, 105, 110]⟩
theorem e_NoBargain : ("NoBargain" : Str) = s_NoBargain := by decide +kernel
noncomputable def s_NoMember : Str := ⟨#[78, 111, 77, 101, 109, 98, 101, 114]⟩
theorem e_NoMember : ("NoMember" : Str) = s_NoMember := by decide +kernel
noncomputable def s_NoOffer : Str := ⟨#[78, 111, 79, 102, 102, 101, 114]⟩
theorem e_NoOffer : ("NoOffer" : Str) = s_NoOffer := by decide +kernel
noncomputable def s_NoQuarrel : Str := ⟨#[78, 111, 81, 117, 97, 114, 114, 101, 108]⟩
theorem e_NoQuarrel : ("NoQuarrel" : Str) = s_NoQuarrel := by decide +kernel
noncomputable def s_NoRow : Str := ⟨#[78, 111, 82, 111, 119]⟩
theorem e_NoRow : ("NoRow" : Str) = s_NoRow := by decide +kernel
noncomputable def s_NoSign : Str := ⟨#[78, 111, 83, 105, 103, 110]⟩
theorem e_NoSign : ("NoSign" : Str) = s_NoSign := by decide +kernel
noncomputable def s_NoText : Str := ⟨#[78, 111, 84, 101, 120, 116]⟩
theorem e_NoText : ("NoText" : Str) = s_NoText := by decide +kernel
noncomputable def s_NoWay : Str := ⟨#[78, 111, 87, 97, 121]⟩
theorem e_NoWay : ("NoWay" : Str) = s_NoWay := by decide +kernel
noncomputable def s_NotSeen : Str := ⟨#[78, 111, 116, 83, 101, 101, 110]⟩
theorem e_NotSeen : ("NotSeen" : Str) = s_NotSeen := by decide +kernel
noncomputable def s_NotTheirs : Str := ⟨#[78, 111, 116, 84, 104, 101, 105, 114, 115]⟩
theorem e_NotTheirs : ("NotTheirs" : Str) = s_NotTheirs := by decide +kernel
noncomputable def s_NothingLeft : Str := ⟨#[78, 111, 116, 104, 105, 110, 103, 76, 101, 102, 116]⟩
theorem e_NothingLeft : ("NothingLeft" : Str) = s_NothingLeft := by decide +kernel
noncomputable def s_Own : Str := ⟨#[79, 119, 110]⟩
theorem e_Own : ("Own" : Str) = s_Own := by decide +kernel
noncomputable def s_TooMany : Str := ⟨#[84, 111, 111, 77, 97, 110, 121]⟩
theorem e_TooMany : ("TooMany" : Str) = s_TooMany := by decide +kernel
noncomputable def s_Twice : Str := ⟨#[84, 119, 105, 99, 101]⟩
theorem e_Twice : ("Twice" : Str) = s_Twice := by decide +kernel
noncomputable def s_Unlike : Str := ⟨#[85, 110, 108, 105, 107, 101]⟩
theorem e_Unlike : ("Unlike" : Str) = s_Unlike := by decide +kernel
noncomputable def s_x : Str := ⟨#[]⟩
theorem e_x : ("" : Str) = s_x := by decide +kernel
noncomputable def s_x2b : Str := ⟨#[43]⟩
theorem e_x2b : ("+" : Str) = s_x2b := by decide +kernel
end SM
namespace VL
open PySem PySem.Spec PyProof.Rows L2 SM
noncomputable def kNames : List Str := [s_BadNumber, s_Closed, s_NoBargain, s_NoMember, s_NoOffer, s_NoQuarrel, s_NoRow, s_NoSign, s_NoText, s_NoWay, s_NotSeen, s_NotTheirs, s_NothingLeft, s_Own, s_TooMany, s_Twice, s_Unlike]
noncomputable def gKinds (a : Addr) (c : Str) : MS := (sSeq (sSet 1 (cFrz (nLst (aCons (cIsE 0 a (c == s_BadNumber)) (aCons (cIsE 0 a (c == s_Closed)) (aCons (cIsE 0 a (c == s_NoBargain)) (aCons (cIsE 0 a (c == s_NoMember)) aNil)))))))
  (sSeq (sSet 1 (cBin addD (cVar 1) (cFrz (nLst (aCons (cIsE 0 a (c == s_NoOffer)) (aCons (cIsE 0 a (c == s_NoQuarrel)) (aCons (cIsE 0 a (c == s_NoRow)) (aCons (cIsE 0 a (c == s_NoSign)) aNil))))))))
  (sSeq (sSet 1 (cBin addD (cVar 1) (cFrz (nLst (aCons (cIsE 0 a (c == s_NoText)) (aCons (cIsE 0 a (c == s_NoWay)) (aCons (cIsE 0 a (c == s_NotSeen)) (aCons (cIsE 0 a (c == s_NotTheirs)) aNil))))))))
  (sSeq (sSet 1 (cBin addD (cVar 1) (cFrz (nLst (aCons (cIsE 0 a (c == s_NothingLeft)) (aCons (cIsE 0 a (c == s_Own)) (aCons (cIsE 0 a (c == s_TooMany)) (aCons (cIsE 0 a (c == s_Twice)) aNil))))))))
  (sSeq (sSet 1 (cBin addD (cVar 1) (cFrz (nLst (aCons (cIsE 0 a (c == s_Unlike)) (aCons (cIsE 0 a true) aNil))))))
  (sSeq (sSet 2 (cFrz (nLst (aCons (cD (.str s_BadNumber)) (aCons (cD (.str s_Closed)) (aCons (cD (.str s_NoBargain)) (aCons (cD (.str s_NoMember)) (aCons (cD (.str s_NoOffer)) (aCons (cD (.str s_NoQuarrel)) (aCons (cD (.str s_NoRow)) (aCons (cD (.str s_NoSign)) (aCons (cD (.str s_NoText)) aNil))))))))))))
  (sSeq (sSet 2 (cBin addD (cVar 2) (cFrz (nLst (aCons (cD (.str s_NoWay)) (aCons (cD (.str s_NotSeen)) (aCons (cD (.str s_NotTheirs)) (aCons (cD (.str s_NothingLeft)) (aCons (cD (.str s_Own)) (aCons (cD (.str s_TooMany)) (aCons (cD (.str s_Twice)) (aCons (cD (.str s_Unlike)) (aCons (cD (.str s_x2b)) aNil)))))))))))))
  (sRet (nDat (cJoin (cD (.str s_x)) (cFrz (nComp (iRange1 (aCons (cD (.int 18)) aNil)) [3] (gN 3) (cTest (cBin subD (cVar 1) (cVar 3))) (cBin subD (cVar 2) (cVar 3))))))))))))))
structure TabOk (K : PySem.W.Frag) (mg : Str → Option Value) (tab : List (Str × Addr)) (Hc : Addr) : Prop where
  mg : ∀ y ay, (y, ay) ∈ tab → mg y = some (.ref ay)
  nd : (tab.map (·.2)).Nodup
  ex : ∀ y ay, (y, ay) ∈ tab → ExcF K (tab.map (·.2)) ay
  hx : ∀ y ay, (y, ay) ∈ tab → PySem.W.exmOne K (.ref ay) (.ref Hc) = some true
noncomputable def tabB (K : PySem.W.Frag) (as : List Addr) (Hc : Addr) : Bool := decide as.Nodup && as.all fun C => excB K as C && (PySem.W.exmOne K (.ref C) (.ref Hc) == some true)
theorem tab_of {K : PySem.W.Frag} {mg : Str → Option Value} {tab : List (Str × Addr)} {Hc : Addr} (hm : ∀ y ay, (y, ay) ∈ tab → mg y = some (.ref ay)) (h : tabB K (tab.map (·.2)) Hc = true) : TabOk K mg tab Hc := by
  unfold tabB at h
  rw [Bool.and_eq_true, List.all_eq_true] at h
  obtain ⟨h1, h2⟩ := h
  have h3 : ∀ y ay, (y, ay) ∈ tab → excB K (tab.map (·.2)) ay = true ∧ (PySem.W.exmOne K (.ref ay) (.ref Hc) == some true) = true := fun y ay hy => by
    have := h2 ay (List.mem_map.mpr ⟨_, hy, rfl⟩)
    rwa [Bool.and_eq_true] at this
  exact ⟨hm, of_decide_eq_true h1, fun y ay hy => excF_of (h3 y ay hy).1, fun y ay hy => beq_iff_eq.mp (h3 y ay hy).2⟩
theorem nodup_snd {α β : Type} : ∀ {l : List (α × β)} {a b : α} {c : β}, (l.map (·.2)).Nodup → (a, c) ∈ l → (b, c) ∈ l → a = b
  | [], _, _, _, _, h, _ => by cases h
  | (x, y) :: l, a, b, c, n, h1, h2 => by
    rw [List.map_cons, List.nodup_cons] at n
    rcases List.mem_cons.mp h1 with e1 | h1
    · rcases List.mem_cons.mp h2 with e2 | h2
      · cases e1; cases e2; rfl
      · cases e1; exact absurd (List.mem_map.mpr ⟨_, h2, rfl⟩) n.1
    · rcases List.mem_cons.mp h2 with e2 | h2
      · cases e2; exact absurd (List.mem_map.mpr ⟨_, h1, rfl⟩) n.1
      · exact nodup_snd n.2 h1 h2
theorem TabOk.kit {K : PySem.W.Frag} {mg : Str → Option Value} {tab : List (Str × Addr)} {Hc : Addr} (T : TabOk K mg tab Hc) {c y : Str} {D ay : Addr} (hc : c ∈ tab.map (·.1)) (hD : mg c = some (.ref D)) (hy : (y, ay) ∈ tab) : PySem.W.kitOne K (.ref D) (.ref ay) = some (c == y) := by
  obtain ⟨⟨c', ac⟩, hcm, rfl⟩ := List.mem_map.mp hc
  have e : D = ac := by
    have := T.mg _ _ hcm
    rw [hD] at this
    cases this
    rfl
  subst e
  rw [(T.ex _ _ hcm).ds ay (List.mem_map.mpr ⟨_, hy, rfl⟩)]
  congr 1
  rw [Bool.eq_iff_iff, beq_iff_eq, beq_iff_eq]
  constructor
  · intro e
    subst e
    exact nodup_snd T.nd hcm hy
  · intro e
    have := T.mg _ _ hy
    rw [← e, hD] at this
    cases this
    rfl
theorem TabOk.tryF {K : PySem.W.Frag} {mg : Str → Option Value} {tab : List (Str × Addr)} {Hc : Addr} (T : TabOk K mg tab Hc) (ht : tab.map (·.1) = kNames) : ∀ c ∈ kNames, ∃ C, mg c = some (.ref C) ∧ PySem.W.exmOne K (.ref C) (.ref Hc) = some true := fun c hc => by
  rw [← ht] at hc
  obtain ⟨⟨c', ac⟩, hcm, rfl⟩ := List.mem_map.mp hc
  exact ⟨ac, T.mg _ _ hcm, T.hx _ _ hcm⟩
theorem TabOk.exc {K : PySem.W.Frag} {mg : Str → Option Value} {tab : List (Str × Addr)} {Hc : Addr} (T : TabOk K mg tab Hc) {c : Str} {D : Addr} (hc : c ∈ tab.map (·.1)) (hD : mg c = some (.ref D)) : ExcF K (tab.map (·.2)) D := by
  obtain ⟨⟨c', ac⟩, hcm, rfl⟩ := List.mem_map.mp hc
  have := T.mg _ _ hcm
  rw [hD] at this
  cases this
  exact T.ex _ _ hcm
theorem okM_cIsE {i : Nat} {a : Addr} {b : Bool} {ρ : Rho} {m : Md} {P : Rv → Rho → Prop} (h : ρ[i]? = some (.own m (.raw (.ref a)))) : okM (cIsE i a b ρ) P ↔ P (.d (.bool b)) ρ := by
  unfold cIsE
  rw [h]
  simp
noncomputable def kFlags (c : Str) : List Bool := (kNames.map fun n => c == n) ++ [true]
noncomputable def kWords : List Str := kNames ++ [s_x2b]
noncomputable def kJ (c : Str) : List Str := ((List.range 18).filter fun i => (kFlags c)[i]?.getD false).map fun i => kWords[i]?.getD s_x
noncomputable def kChk (c : Str) : Bool := decide (Txt.join s_x (kJ c) = c ++ plusS) && decide (((kJ c).map (·.length)).sum + (kJ c).length * s_x.length ≤ 16777216)
theorem kChk_all : kNames.all kChk = true := by decide +kernel
theorem strsD_map {ss : List Str} : strsD (ss.map .str) = some ss := by
  induction ss with
  | nil => rfl
  | cons s ss ih =>
    show (strsD (ss.map .str)).map (s :: ·) = _
    rw [ih]
    rfl
theorem kinds_run (a : Addr) : ∀ c ∈ kNames, ∃ ρ', gKinds a c [.own .pin (.raw (.ref a)), .no, .no, .no] = some (.rt (.dat (.str (c ++ plusS))) ρ') := by
  intro c hc
  have ck := List.all_eq_true.mp kChk_all c hc
  unfold kChk at ck
  rw [Bool.and_eq_true, decide_eq_true_eq, decide_eq_true_eq] at ck
  have isE : ∀ (b : Bool) (x y z : Sl) (P : Rv → Rho → Prop), okM (cIsE 0 a b [.own .pin (.raw (.ref a)), x, y, z]) P ↔ P (.d (.bool b)) [.own .pin (.raw (.ref a)), x, y, z] := fun b x y z P => okM_cIsE rfl
  have h : okS (gKinds a c [.own .pin (.raw (.ref a)), .no, .no, .no]) fun o => ∃ ρ', o = .rt (.dat (.str (c ++ plusS))) ρ' := by
    unfold gKinds
    rw [okS_seq]
    refine okS_set ?_
    simp [isE]
    rw [okS_seq]
    refine okS_set ?_
    simp [isE]
    rw [okS_seq]
    refine okS_set ?_
    simp [isE]
    rw [okS_seq]
    refine okS_set ?_
    simp [isE]
    rw [okS_seq]
    refine okS_set ?_
    simp [isE]
    rw [okS_seq]
    refine okS_set ?_
    simp
    rw [okS_seq]
    refine okS_set ?_
    simp
    refine okS_ret ?_
    have e1 : ∀ xs ys : List PyData, xs = (kFlags c).map .bool → ys = kWords.map .str → okM (nDat (cJoin (cD (.str s_x)) (cFrz (nComp (iRange1 (aCons (cD (.int 18)) aNil)) [3] (gN 3) (cTest (cBin subD (cVar 1) (cVar 3))) (cBin subD (cVar 2) (cVar 3))))) [.own .pin (.raw (.ref a)), .val (.list xs), .val (.list ys), .no]) fun t ρ1 => ∃ ρ', Out.rt t ρ1 = .rt (.dat (.str (c ++ plusS))) ρ' := by
      intro xs ys hx hy
      have lx : xs.length = 18 := by rw [hx]; rfl
      have ly : ys.length = 18 := by rw [hy]; rfl
      rw [okM_nDat]
      unfold cJoin
      rw [okM_bnd, okM_cD]
      simp only []
      rw [okM_bnd, okM_cFrz]
      refine okM_compM (D := fun i : Nat => PyData.int (i : Nat)) (ds := List.range 18) (fun i => (kFlags c)[i]?.getD false) (fun i => .str (kWords[i]?.getD s_x)) rfl (by simp) rfl rfl (fun i hi => okM_of ?_) (fun i hi _ => okM_of ?_) ?_
      · have hi : i < 18 := List.mem_range.mp hi
        have : atI xs (i : Nat) = some (.bool ((kFlags c)[i]?.getD false)) := by
          rw [atI_cast (by omega), hx, List.getElem?_map]
          have hl : i < (kFlags c).length := hi
          rw [List.getElem?_eq_getElem hl]
          rfl
        simp [this]
      · have hi : i < 18 := List.mem_range.mp hi
        have : atI ys (i : Nat) = some (.str (kWords[i]?.getD s_x)) := by
          rw [atI_cast (by omega), hy, List.getElem?_map]
          have hl : i < kWords.length := hi
          rw [List.getElem?_eq_getElem hl]
          rfl
        simp [this]
      · have ej : (List.filter (fun i => (kFlags c)[i]?.getD false) (List.range 18)).map (fun i => PyData.str (kWords[i]?.getD s_x)) = (kJ c).map .str := by
          unfold kJ
          rw [List.map_map]
          rfl
        rw [ej, toD_lst, toDs_map, Option.map_some, okO_some]
        unfold join1
        simp only [derS_d, strsD_map]
        rw [if_pos ck.2, okM_ok, rvd_d, okO_some, ck.1]
        exact ⟨_, rfl⟩
    exact e1 _ _ rfl rfl
  obtain ⟨o, e, ρ', rfl⟩ := h
  exact ⟨ρ', e⟩
section
variable {P : Program} {w : World} {K : PySem.W.Frag} {mg : Str → Option Value} {base : Heap}
theorem fn_kinds {x qual : Str} {st : Stmt} {f : Addr} {fd : FuncData} {k : Nat} {tab : List (Str × Addr)} {Hc : Addr} (F : Fun K x qual st f fd) (S : FnScope ["e", "some", "words", "k"] ["e"] (defScope st)) (T : TabOk K mg tab Hc) (ht : tab.map (·.1) = kNames)
    (hb : ∀ (c : Str) (D : Addr), c ∈ tab.map (·.1) → mg c = some (.ref D) → ExcC K D → PySem.W.kitOne K (.ref D) (.type "ValueError") = some true → ∀ (cdv : Value) (A : Around) (outer : List Env) (s : Shared) (H : Hp) (E : XK) (p : Addr × Obj), L2H.Hot1 A p → Zc (.ref D) none p.2 → (∃ vs, p.2.data = .fields vs) →
      VSs (L2H.cxH CX0 P w K mg base ["e", "some", "words", "k"] qual (defScope st) f cdv A outer s H E p) W0 (defBody st) (gKinds p.1 c)) :
    VLH.FnE P w K mg base (k + 1) f fd ["e"] (spK K mg kNames) := by
  refine VLH.fn_ofE F S (fun a D vs H Q E h => by obtain ⟨rfl, _⟩ := h; rfl) fun cdv A outer s H vs Q E p D hot hz hr h => ?_
  obtain ⟨rfl, c, hc, hm, F0, hF0, hT0, hQ⟩ := h
  have hc' : c ∈ tab.map (·.1) := by rw [ht]; exact hc
  have ex := T.exc hc' hm
  refine ⟨_, hb c D hc' hm ex.c ex.ve cdv A outer s H E p hot hz (let ⟨v, h, _⟩ := hot.2; ⟨v, h⟩), ?_⟩
  obtain ⟨ρ', e⟩ := kinds_run p.1 c hc
  refine ⟨F0, [.own .pin (.raw (.ref p.1)), .no, .no, .no], fun _ => [], _, ⟨hF0, rfl, fun i s h => ?_, fun _ _ => rfl, fun _ => List.nodup_nil, (fun _ _ _ h => nomatch h), hT0, fun j i p t h _ => by
    match j, h with
    | 0, h => cases h
    | 1, h => cases h
    | 2, h => cases h
    | 3, h => cases h
    | j + 4, h => simp at h⟩, e, fun v A' σ' H' F' fp' st n => ?_⟩
  · match i, h with
    | 0, h => cases h; exact ⟨_, rfl, .raw⟩
    | 1, h => cases h; trivial
    | 2, h => cases h; trivial
    | 3, h => cases h; trivial
    | i + 4, h => simp at h
  · cases n.ok with
    | dat q =>
      cases q
      exact hQ F' H' ⟨fun b o h nt => st.frame b o h (fun ⟨i, z⟩ => by cases z) nt, st.dom, st.fr, st.env.sub, fun b h h' => (st.nf b h h').imp_right (fun z => z.elim (fun ⟨i, z⟩ => by cases z) id), st.env.tb⟩
end
end VL

end

section
set_option Elab.async false
set_option linter.all false
set_option maxRecDepth 100000
namespace VL
open PySem PySem.Spec PyProof.Rows L2
section
variable {α β : Type} {ρ : Rho}
@[simp] theorem okS_raise {c : Str} {P : Out → Prop} : okS (sRaise c ρ) P ↔ P (.ex c ρ) := okS_some
@[simp] theorem okM_nCallR {Ts : List Nat} {m : Nat} {F : Fn} {f : M (List Rv)} {P : Tr → Rho → Prop} : okM (nCallR Ts m F f ρ) P ↔ okM (f ρ) fun rs ρ1 => okM (callR Ts m F rs ρ1) P := by
  unfold nCallR
  simp only [okM_bnd]
section
variable {ds : List PyData} {n : Nat} {T : List Nat} {F : Fn}
theorem pure_2 : ∀ (ds : List PyData) (i : Nat), posOf (ds.map .d) i = none
  | [], _ => rfl
  | d :: ds, i => by simp [pure_2 ds i]
end
@[simp] theorem isNo_no : isNo (some .no) = true := rfl
end
end VL

end

section
set_option Elab.async false
set_option linter.all false
set_option maxRecDepth 100000
namespace VL
open PySem PySem.Spec PyProof.Rows L2
section
variable {X : Cx} {T T1 T2 T3 : List Nat} {W : WV} {K : Fg} {fp1 : M (Nat × List Nat)} {a : Expr} {pos p : Pos}
noncomputable def nMv (i : Nat) : M Tr := fun ρ => match ρ[i]? with
  | some (.own .free t) => some (.ok t (ρ.set i (.own .free .hole)))
  | _ => none
theorem vn_mv (i : Nat) {x : Str} (hN : X.N[i]? = some x := by rfl) (hv : Vis X.env.scope x := by first | exact Or.inl rfl | exact Or.inr (Or.inl rfl) | exact Or.inr (Or.inr rfl)) (hd : (x == ("__debug__" : Str)) = false := by decide)
    (hcd : (x == ("__classdict__" : Str)) = false := by decide) : VN X [i] W (.Name x pos) (nMv i) :=
  pe_imp (pe_var hN hv hd hcd) fun σ H Q ⟨F, ρ, fp, o, E, e, P⟩ => by
    unfold nMv at e
    split at e
    · rename_i t h
      cases ok_inj e
      obtain ⟨u, hu, q⟩ := E.sl i _ h
      have hi : i < ρ.length := (List.getElem?_eq_some_iff.mp h).1
      have alN : AlOk H σ (ρ.set i (.own .free .hole)) := al_set E hi rfl
      refine ⟨u, sg_some.mp hu, P u H F (fset fp i []) ⟨⟨⟨E.sub, by rw [List.length_set]; exact E.len, fun j s hs => ?_, fun j hj => ?_, fun j => ?_, fun j l b h1 h2 => ?_, E.tb, alN⟩, Same.refl _, fun _ h h' => absurd h h', fun _ h => h, fun _ _ h _ _ => h, fun b hb => ?_, fun j mj tj hj hmj => ?_, fun j tj hj => ?_⟩, fun j m t' hj => ?_, fun j hj => ?_⟩ ⟨fp i, q, E.nd i, fun b hb => .inr ⟨i, hb⟩, fun b hb z => ?_⟩⟩
      · unfold fset
        by_cases hji : i = j
        · subst hji
          rw [List.getElem?_set_self hi] at hs
          cases hs
          rw [if_pos rfl]
          exact ⟨u, hu, .hole⟩
        · rw [List.getElem?_set_ne hji] at hs
          rw [if_neg (Ne.symm hji)]
          exact E.sl j s hs
      · unfold fset
        by_cases hji : j = i
        · rw [if_pos hji]
        · rw [if_neg hji]
          refine E.nil j fun m t z => hj m t ?_
          rw [List.getElem?_set_ne (Ne.symm hji)]
          exact z
      · unfold fset
        split
        · exact List.nodup_nil
        · exact E.nd j
      · unfold fset at h1 h2
        split at h1
        · cases h1
        · split at h2
          · cases h2
          · exact E.ap j l b h1 h2
      · rcases hb.fset with z | z
        · cases z
        · exact .inl z
      · have hji : i ≠ j := fun z => by subst z; rw [h] at hj; cases hj; cases hmj
        exact ⟨rfl, mj, tj, by rw [List.getElem?_set_ne hji]; exact hj, hmj⟩
      · have hji : i ≠ j := fun z => by subst z; rw [h] at hj; cases hj
        refine ⟨rfl, by rw [List.getElem?_set_ne hji]; exact hj, ?_, fun _ _ => rfl⟩
        unfold fset
        rw [if_neg (Ne.symm hji)]
      · by_cases hji : i = j
        · subst hji
          rw [h] at hj
          cases hj
          exact ⟨.hole, List.getElem?_set_self hi⟩
        · exact ⟨t', by rw [List.getElem?_set_ne hji]; exact hj⟩
      · have hji : i ≠ j := fun z => hj (by simp [z])
        refine ⟨List.getElem?_set_ne hji, ?_, fun _ _ => rfl⟩
        unfold fset
        rw [if_neg (Ne.symm hji)]
      · obtain ⟨j, hj⟩ := z
        unfold fset at hj
        split at hj
        · cases hj
        · rename_i hne
          exact hne (E.ap j i b hj hb)
    · cases e
noncomputable def cutP1 (Ts : List Nat) (r : Nat × List Nat) (lo hi : Option Int) : M Rv := fun ρ => if Ts.contains r.1 then none else match treeAt ρ r with
  | some (.lst ts) => (match flat ts with
    | some ds => (match cutD (.list ds) lo hi with
      | some z => some (.ok (.d z) ρ)
      | none => none)
    | none => none)
  | _ => none
noncomputable def cCutP (Ts : List Nat) (f : M (Nat × List Nat)) (fl fh : M (Option Int)) : M Rv := bnd f fun r => bnd fl fun lo => bnd fh fun hi => cutP1 Ts r lo hi
variable {fl fh : M (Option Int)} {lo hi : Option Expr} {p2 : Pos}
noncomputable def cIsiP (B : BT) (f : M (Nat × List Nat)) : M Rv := bnd f fun r => fun ρ => match (treeAt ρ r).bind Tr.toD with
  | some d => (match isiD B d with
    | some b => some (.ok (.d (.bool b)) ρ)
    | none => none)
  | none => none
theorem ve_isiP {B : BT} {y : Str} {p' : Pos} (ha : VP X T W a fp1) (hg : Gl X "isinstance") (hm : X.mg "isinstance" = none) (hg' : Gl X y) (hm' : X.mg y = none) (hv' : bootBuiltins y = some (.type B.nm)) (hn' : y ≠ "__name__" := by decide) (hd' : (y == ("__debug__" : Str)) = false := by decide)
    (h1 : starEach [a, .Name y p'] X.env = (false, eval a X.env) :: starEach [.Name y p'] X.env := by rfl) (h2 : (backTo pos (starEach [.Name y p'] X.env)).any (·.1) = false := by rfl) (h3 : starEach [.Name y p'] X.env = (false, eval (.Name y p') X.env) :: starEach [] X.env := by rfl) :
    VE X T W (.Call (.Name "isinstance" p) [a, .Name y p'] [] pos) (cIsiP B fp1) :=
  pe_imp (pe_callB call_isi hg hm (by decide +kernel) (pa_cons ha (pa_cons (pe_bltn (v := .ty B.nm) hg' hm' hv' rfl hn' hd') pa_nil h3) h1) (by decide) (by decide) h1 h2) fun σ H Q ⟨F, ρ, fp, o, E, e, P⟩ => by
    refine tv_bnd E e P (fun i hi => hi) fun x ρ1 v H1 F1 fp1 s1 r1 e1 P1 => ?_
    split at e1
    · rename_i d hd
      split at e1
      · rename_i b hb
        cases ok_inj e1
        obtain ⟨t0, ht, htd⟩ := Option.bind_eq_some_iff.mp hd
        obtain ⟨B', qt, _⟩ := place_get s1.env r1 ht
        have q : Dq X.K H1 v d := qt.dp s1.env.sub (fun _ _ => rfl) htd
        obtain ⟨hd1, hd2⟩ := isiD_ok (K := X.K) hb
        exact ⟨v, .ty B.nm, _, _, b, rfl, .ty B.nm, tyX_of q hd1, hd2, P1 _ H1 F1 fp1 (.refl s1.env) (.bl b)⟩
      · cases e1
    · cases e1
end
end VL

end

section
set_option Elab.async false
set_option linter.all false
set_option maxRecDepth 100000
namespace VL
open PySem PySem.Spec PyProof.Rows L2
section
variable {X : Cx} {T T1 T2 T3 T4 T5 : List Nat} {W : WV} {K : Fg} {pos p : Pos}
variable {fp1 : M (Nat × List Nat)} {fa : M Rv} {o i e : Expr} {apos cpos : Pos}
variable {fi fe : M Rv} {tpos : Pos}
end
end VL

end

section
set_option Elab.async false
set_option linter.all false
set_option maxRecDepth 100000
namespace VL
open PySem PySem.Spec PyProof.Rows L2
section
variable {X : Cx} {T : List Nat} {W : WV} {K : Fg} {pos : Pos}
end
end VL

end

section
set_option Elab.async false
set_option linter.all false
set_option maxRecDepth 100000
set_option maxHeartbeats 2000000
namespace VL
open PySem PySem.Spec PyProof.Rows L2
noncomputable def keyIx {κ α : Type} [DecidableEq κ] (k : κ) : List (κ × α) → Option Nat
  | [] => none
  | (g, _) :: r => if g = k then some 0 else (keyIx k r).map (· + 1)
structure FldOk (K : Fg) (c : Str) (f : Str) : Prop where
  cl : ∀ C, PySem.W.nsIn K mainGlobals c = some (some (.ref C)) → Cls K C ∧ NoAttr K C f
noncomputable def pFld (c f : Str) (fo : M (Nat × List Nat)) : M (Nat × List Nat) := bnd fo fun r => fun ρ => match treeAt ρ r with
  | some (.ins c' fs) => if c' = c then (match keyIx f fs with
    | some j => some (.ok (r.1, r.2 ++ [j]) ρ)
    | none => none) else none
  | _ => none
section
variable {X : Cx} {T T1 T2 : List Nat} {W : WV} {K : Fg} {fp1 : M (Nat × List Nat)} {fa : M Rv} {fn : M Tr} {o e : Expr} {c f f' : Str} {pos pos' : Pos}
noncomputable def putFT (f : Str) (t : Tr) : List (Str × Tr) → List (Str × Tr)
  | [] => [(f, t)]
  | (g, x) :: r => if g = f then (g, t) :: r else (g, x) :: putFT f t r
noncomputable def fld1 (c f : Str) (T2 : List Nat) (tn : Tr) (r : Nat × List Nat) : MS := fun ρ => if !modeOk ρ r.1 then none else match treeAt ρ r with
  | some (.ins c' fs) => if c' = c ∧ fs.length < 1000 then some (.nx (putAt ρ r (.ins c (putFT f tn fs)))) else none
  | _ => none
noncomputable def sFldT (c f : Str) (g : M Tr) (fo : M (Nat × List Nat)) : MS := sE g fun t => sE fo (fld1 c f [] t)
noncomputable def isCls (c m : Str) (ρ : Rho) (i : Nat) : Bool := match ρ[i]? with
  | some (.own _ (.ins c' fs)) => decide (c' = c) && (keyIx m fs).isNone
  | _ => false
noncomputable def nMeth (c m : Str) (Ts : List Nat) (k : Nat) (G : Fn) (i : Nat) (fs : M (List Rv)) : M Tr := fun ρ => if isCls c m ρ i then bnd fs (fun xs => callR Ts k G (.o i :: xs)) ρ else none
end
section
variable {X : Cx} {T Ts : List Nat} {W : WV} {k m0 i : Nat} {g : Addr} {fd : FuncData} {ps : List Str} {G : Fn} {x c m m' : Str} {px apos pos : Pos} {e : Expr} {es : List Expr} {fs : M (List Rv)}
end
end VL

end

section
set_option Elab.async false
set_option linter.all false
set_option maxRecDepth 100000
set_option maxHeartbeats 2000000
namespace VL
open PySem PySem.Spec PyProof.Rows L2
section
variable {X : Cx} {CX : CXT} {k : Nat} {f C : Addr} {fd : FuncData} {ps : List Str} {sp : Sp} {E : Sg → XK} {x : Str} {p pos : Pos} {e : Expr} {es : List Expr} {t : TA}
end
section
variable {X : Cx} {T : List Nat} {W : WV} {k m0 : Nat} {g C : Addr} {fd : FuncData} {ps : List Str} {G : Fn} {x c : Str} {p pos : Pos} {e : Expr} {es : List Expr} {fs : M (List Rv)}
end
end VL

end

section
set_option Elab.async false
set_option linter.all false
set_option maxRecDepth 100000
set_option maxHeartbeats 2000000
namespace VL
open PySem PySem.Spec PyProof.Rows L2
section
variable {X : Cx} {T T1 T2 T3 : List Nat} {W : WV} {K : Fg} {fp1 : M (Nat × List Nat)} {fa : M Rv} {fn : M Tr} {o e : Expr} {pos p apos cpos : Pos}
noncomputable def nDictC (f : M (Nat × List Nat)) : M Tr := bnd f fun r => fun ρ => match treeAt ρ r with
  | some (.dk kvs) => (match dats kvs with
    | some ds => some (.ok (.dk (toT ds)) ρ)
    | none => none)
  | _ => none
theorem new_one {F H : Hp} {fp fp1 : FP} {σ : Sg} {ρ ρ1 : Rho} {F1 H1 : Hp} {t : Tr} {y : Addr} {ob : HO} (s1 : EStep K T F H σ ρ fp F1 H1 ρ1 fp1) (ny : H1 y = none) (tk : TrOk K F1 (upd H1 y ob) (.ref y) t [y]) : EStep K T F H σ ρ fp F1 (upd H1 y ob) ρ1 fp1 ∧ ∃ A, NewOk K H fp F1 (upd H1 y ob) fp1 (.ref y) t A :=
  ⟨s1.trans ((Grow.lay ob s1.env.sub ny).step s1.env), [y], tk, by simp, fun b hb => by rw [List.mem_singleton.mp hb]; exact .inl (s1.st.dom y ny), fun b hb z => by rw [List.mem_singleton.mp hb] at z; exact (s1.env.there z).1 ny⟩
noncomputable def popK1 (T2 : List Nat) (r : Nat × List Nat) (y : Rv) : MS := fun ρ => if T2.contains r.1 || !modeOk ρ r.1 then none else match y, treeAt ρ r with
  | .d kd, some (.dk kvs) => (match keyD kd, dats kvs with
    | some k, some ds => if (ds.any fun kv => decide (kv.1 = k)) then some (.nx (putAt ρ r (.dk (toT (ds.filter fun kv => decide (kv.1 ≠ k)))))) else none
    | _, _ => none)
  | _, _ => none
noncomputable def sPopK (T2 : List Nat) (f : M (Nat × List Nat)) (fk : M Rv) : MS := sE f fun r => fun ρ => if isDk (treeAt ρ r) then sE fk (popK1 T2 r) ρ else none
end
end VL

end

section
set_option Elab.async false
set_option linter.all false
set_option maxRecDepth 100000
set_option maxHeartbeats 2000000
namespace VL
open PySem PySem.Spec PyProof.Rows L2
section
variable {X : Cx} {T T1 T2 T3 : List Nat} {W : WV} {K : Fg} {fp1 : M (Nat × List Nat)} {fa : M Rv} {fn : M Tr} {o e k : Expr} {pos p apos cpos : Pos}
noncomputable def nListC (f : M (Nat × List Nat)) : M Tr := bnd f fun r => fun ρ => match treeAt ρ r with
  | some (.lst ts) => (match flat ts with
    | some ds => some (.ok (.lst (ds.map .dat)) ρ)
    | none => none)
  | _ => none
noncomputable def dtNil : M (List (Key × Tr)) := ret []
noncomputable def dtCons (k : Key) (f : M Tr) (g : M (List (Key × Tr))) : M (List (Key × Tr)) := bnd f fun t => bnd g fun kts => ret ((k, t) :: kts)
variable {keys : List (Option Expr)} {values : List Expr} {fs : M (List (Key × Tr))}
noncomputable def nDisp (fs : M (List (Key × Tr))) : M Tr := bnd fs fun kts => fun ρ => if decide (kts.length ≤ 15) && decide ((kts.map (·.1)).Nodup) then some (.ok (.dk kts) ρ) else none
end
end VL

end

section
set_option Elab.async false
set_option linter.all false
set_option maxRecDepth 100000
set_option maxHeartbeats 2000000
namespace VL
open PySem PySem.Spec PyProof.Rows L2
section
variable {κ : Type} [DecidableEq κ] {K : Fg}
noncomputable def putR {α : Type} (k : κ) (x : α) : List (κ × α) → List (κ × α)
  | [] => [(k, x)]
  | (g, y) :: r => if g = k then (g, x) :: r else (g, y) :: putR k x r
noncomputable def mergeR {α : Type} (xs more : List (κ × α)) : List (κ × α) := more.foldl (fun acc kx => putR kx.1 kx.2 acc) xs
end
section
variable {X : Cx} {T T1 T2 T3 : List Nat} {W : WV} {K : Fg} {fp1 : M (Nat × List Nat)} {fn : M Tr} {o e : Expr} {pos p apos cpos : Pos}
noncomputable def upd1 (T2 : List Nat) (r : Nat × List Nat) (tn : Tr) : MS := fun ρ => if T2.contains r.1 || !modeOk ρ r.1 then none else match treeAt ρ r, tn with
  | some (.dk kts), .dk us => if small (kts.length + us.length) && decide ((kts.map (·.1)).Nodup) then some (.nx (putAt ρ r (.dk (mergeR kts us)))) else none
  | _, _ => none
noncomputable def isDkk : Option Tr → Bool
  | some (.dk _) => true
  | _ => false
noncomputable def sUpd (T2 : List Nat) (f : M (Nat × List Nat)) (g : M Tr) : MS := sE f fun r => fun ρ => if isDkk (treeAt ρ r) then sE g (upd1 T2 r) ρ else none
end
end VL

end

section
set_option Elab.async false
set_option linter.all false
set_option maxRecDepth 100000
set_option maxHeartbeats 2000000
namespace VL
open PySem PySem.Spec PyProof.Rows L2
section
variable {X : Cx} {T T1 T2 T3 : List Nat} {W : WV} {K : Fg} {fp1 : M (Nat × List Nat)} {fn : M Tr} {o e : Expr} {pos p apos cpos : Pos}
noncomputable def nMvP (Ts : List Nat) (f : M (Nat × List Nat)) : M Tr := bnd f fun r => fun ρ => if Ts.contains r.1 && modeOk ρ r.1 then (match treeAt ρ r with
  | some t => some (.ok t (putAt ρ r .hole))
  | none => none) else none
noncomputable def nPopT (Ts : List Nat) (f : M (Nat × List Nat)) : M Tr := bnd f fun r => fun ρ => if Ts.contains r.1 && modeOk ρ r.1 then (match treeAt ρ r with
  | some (.lst ts) => (match ts.getLast? with
    | some t => some (.ok t (putAt ρ r (.lst ts.dropLast)))
    | none => none)
  | _ => none) else none
end
end VL

end

section
set_option Elab.async false
set_option linter.all false
set_option maxRecDepth 100000
set_option maxHeartbeats 2000000
namespace VL
open PySem PySem.Spec PyProof.Rows L2
section
variable {X : Cx} {T T1 T2 T3 : List Nat} {W : WV} {K : Fg} {fp1 : M (Nat × List Nat)} {fn : M Tr} {o e : Expr} {pos p apos cpos : Pos}
noncomputable def asSl : Tr → Sl
  | .dat d => .val d
  | t => .own .free t
noncomputable def sUnp (i j : Nat) (f : M Tr) : MS := sE f fun t => fun ρ => match t with
  | .tup [t1, t2] => (match setSl ρ i (asSl t1) with
    | some ρ1 => (setSl ρ1 j (asSl t2)).map .nx
    | none => none)
  | _ => none
noncomputable def copies : List Tr → Option (List (List (Key × PyData)))
  | [] => some []
  | .dk kvs :: ts => (match dats kvs, copies ts with
    | some ds, some r => some (ds :: r)
    | _, _ => none)
  | _ :: _ => none
noncomputable def copyT (dss : List (List (Key × PyData))) : List Tr := dss.map fun ds => .dk (toT ds)
noncomputable def nCopyDs (v : Nat) (f : M (Nat × List Nat)) : M Tr := bnd f fun r => fun ρ => match treeAt ρ r with
  | some (.lst ts) => (match copies ts with
    | some dss => if decide (v < ρ.length) && small dss.length then some (.ok (.lst (copyT dss)) ρ) else none
    | none => none)
  | _ => none
end
end VL

end

section
set_option Elab.async false
set_option linter.all false
set_option maxRecDepth 100000
set_option maxHeartbeats 1000000
namespace VL
open PySem PySem.Spec PyProof.Rows L2
section
variable {X : Cx} {T T1 T2 : List Nat} {W : WV} {K : Fg} {pos : Pos} {e : Expr}
variable {fp1 : M (Nat × List Nat)}
end
end VL

end

section
set_option Elab.async false
set_option linter.all false
set_option maxRecDepth 100000
set_option maxHeartbeats 1000000
namespace VL
open PySem PySem.Spec PyProof.Rows L2
section
variable {X : Cx} {T T1 T2 : List Nat} {W : WV} {K : Fg} {pos p : Pos} {a b e : Expr} {fp1 : M (Nat × List Nat)} {fn : M Tr}
noncomputable def cEmp (f : M (Nat × List Nat)) (g : M Tr) : M Bool := bnd f fun r => bnd g fun tn => fun ρ => match treeAt ρ r, tn with
  | some (.lst ts), .lst [] => some (.ok ts.isEmpty ρ)
  | _, _ => none
noncomputable def cLenP (f : M (Nat × List Nat)) : M Rv := bnd f fun r => fun ρ => match treeAt ρ r with
  | some (.lst ts) => some (.ok (.d (.int ts.length)) ρ)
  | _ => none
end
mutual
noncomputable def noL : PyData → Bool
  | .list _ => false
  | .dict _ => false
  | .tuple ds => noLs ds
  | _ => true
noncomputable def noLs : List PyData → Bool
  | [] => true
  | d :: ds => noL d && noLs ds
end
mutual
noncomputable def noLt : Tr → Bool
  | .dat d => noL d
  | .lst ts => noLts ts
  | .tup ts => noLts ts
  | _ => false
noncomputable def noLts : List Tr → Bool
  | [] => true
  | t :: ts => noLt t && noLts ts
end
noncomputable def cutF (F : Hp) (L : List Addr) : Hp := fun b => if b ∈ L then none else F b
section
variable {K : Fg} {F H : Hp} {L : List Addr}
theorem cutF_out {b : Addr} (h : b ∉ L) : cutF F L b = F b := if_neg h
mutual
theorem dq_cut (hL : ∀ b ∈ L, ∃ vs, F b = some (.lst vs)) : ∀ (d : PyData) (v : V), noL d = true → Dq K F v d → Dq K (cutF F L) v d
  | .none, _, _, h => by cases h; exact .non
  | .bool b, _, _, h => by cases h; exact .bl b
  | .int i, _, _, h => by cases h; exact .int i
  | .str x, _, _, h => by cases h; exact .str x
  | .list ds, _, c, h => by simp [noL] at c
  | .tuple ds, _, c, h => by
    cases h with
    | tups hs ha =>
      refine .tups ?_ (dqAll_cut hL ds _ (by simpa [noL] using c) ha)
      rcases hs with hs | hs
      · refine .inl ?_
        rw [cutF_out fun z => by obtain ⟨vs, e⟩ := hL _ z; rw [e] at hs; cases hs]
        exact hs
      · exact .inr hs
  | .dict _, _, c, _ => by simp [noL] at c
theorem dqAll_cut (hL : ∀ b ∈ L, ∃ vs, F b = some (.lst vs)) : ∀ (ds : List PyData) (vs : List V), noLs ds = true → DqAll K F vs ds → DqAll K (cutF F L) vs ds
  | [], _, _, h => by cases h; exact .nil
  | d :: ds, _, c, h => by
    have c' : noL d = true ∧ noLs ds = true := by simpa [noLs] using c
    cases h with
    | cons h1 h2 => exact .cons (dq_cut hL d _ c'.1 h1) (dqAll_cut hL ds _ c'.2 h2)
end
mutual
theorem tr_cut (hL : ∀ b ∈ L, ∃ vs, F b = some (.lst vs)) : ∀ {v : V} {t : Tr} {A : List Addr}, TrOk K F H v t A → noLt t = true → TrOk K (cutF F L) H v t A
  | _, _, _, .dat d, c => .dat (dq_cut hL _ _ (by simpa [noLt] using c) d)
  | _, _, _, @TrOk.tup _ _ _ a vs ts A e f r, c => by
    refine .tup e ⟨?_, f.2⟩ (trs_cut hL r (by simpa [noLt] using c))
    unfold cutF; split
    · rfl
    · exact f.1
  | _, _, _, @TrOk.lst _ _ _ a vs ts A e f r, c => by
    refine .lst e ?_ (trs_cut hL r (by simpa [noLt] using c))
    unfold cutF; split
    · rfl
    · exact f
  | _, _, _, .dk e f k r, c => by simp [noLt] at c
  | _, _, _, .dt e f k r, c => by simp [noLt] at c
  | _, _, _, .ins e f kc k r, c => by simp [noLt] at c
  | _, _, _, .fk e f r, c => by simp [noLt] at c
  | _, _, _, .ft e f r, c => by simp [noLt] at c
  | _, _, _, .raw, c => by simp [noLt] at c
  | _, _, _, .sd _ _, c => by simp [noLt] at c
  | _, _, _, .hole, c => by simp [noLt] at c
  | _, _, _, .dn _ _ _, c => by simp [noLt] at c
  | _, _, _, .sn _ _, c => by simp [noLt] at c
theorem trs_cut (hL : ∀ b ∈ L, ∃ vs, F b = some (.lst vs)) : ∀ {vs : List V} {ts : List Tr} {A : List Addr}, TrsOk K F H vs ts A → noLts ts = true → TrsOk K (cutF F L) H vs ts A
  | _, _, _, .nil, _ => .nil
  | _, _, _, @TrsOk.cons _ _ _ v vs t ts A B q r, c => by
    have c' : noLt t = true ∧ noLts ts = true := by simpa [noLts] using c
    exact .cons (tr_cut hL q c'.1) (trs_cut hL r c'.2)
end
end
inductive LA where
  | d (x : PyData)
  | p (r : Nat × List Nat)
noncomputable def LAOk (K : Fg) (F H : Hp) (σ : Sg) (ρ : Rho) (v : V) : LA → Prop
  | .d x => Dq K F v x
  | .p r => ∃ u m t t', sg σ r.1 = some u ∧ ρ[r.1]? = some (Sl.own m t) ∧ t.at r.2 = some t' ∧ pathV H u r.2 = some v
inductive LAsOk (K : Fg) (F H : Hp) (σ : Sg) (ρ : Rho) : List V → List LA → Prop
  | nil : LAsOk K F H σ ρ [] []
  | cons {v vs r rs} : LAOk K F H σ ρ v r → LAsOk K F H σ ρ vs rs → LAsOk K F H σ ρ (v :: vs) (r :: rs)
noncomputable def lNil : M (List LA) := ret []
noncomputable def lD (f : M Rv) (g : M (List LA)) : M (List LA) := bnd f fun x => bnd g fun ls => fun ρ => match x with
  | .d d => some (.ok (.d d :: ls) ρ)
  | _ => none
noncomputable def lP (f : M (Nat × List Nat)) (g : M (List LA)) : M (List LA) := bnd f fun r => bnd g fun ls => ret (.p r :: ls)
noncomputable def lendV (ρ : Rho) : List LA → Option (List PyData)
  | [] => some []
  | .d x :: ls => (lendV ρ ls).map (x :: ·)
  | .p r :: ls => match treeAt ρ r with
    | some (.lst ts) => (match flat ts with
      | some ds => (lendV ρ ls).map (.list ds :: ·)
      | none => none)
    | _ => none
noncomputable def callL (m : Nat) (f : Fn) (ls : List LA) : M Tr := fun ρ => match lendV ρ ls with
  | some ds => if ds.length = m then (match f (ds.map .val) with
    | some (.ret t, _) => if noLt t then some (.ok t ρ) else none
    | _ => none) else none
  | none => none
noncomputable def nLend (m : Nat) (f : Fn) (fs : M (List LA)) : M Tr := bnd fs (callL m f)
section
variable {X : Cx} {T T1 T2 : List Nat} {W : WV} {K : Fg} {pos p : Pos} {e : Expr} {es : List Expr} {fp1 : M (Nat × List Nat)} {fa : M Rv} {fs : M (List LA)}
theorem LAOk.step {F H F1 H1 : Hp} {σ : Sg} {ρ ρ1 : Rho} {fp fp1 : FP} {v : V} (E : EnvOk K F H σ ρ fp) (s : EStep K [] F H σ ρ fp F1 H1 ρ1 fp1) : ∀ {r : LA}, LAOk K F H σ ρ v r → LAOk K F1 H1 σ ρ1 v r
  | .d _, h => dq_mono s.st.fr _ _ h
  | .p r, h => place_step E s (fun z => nomatch z) h
end
section
variable {X : Cx} {W : WV} {k m : Nat} {f : Addr} {fd : FuncData} {ps : List Str} {F : Fn} {x : Str} {p pos : Pos} {e : Expr} {es : List Expr} {fs : M (List LA)}
end
end VL

end

section
set_option Elab.async false
set_option linter.all false
set_option maxRecDepth 100000
set_option maxHeartbeats 1000000
namespace VL
open PySem PySem.Spec PyProof.Rows L2
section
variable {X : Cx} {T T1 T2 : List Nat} {W : WV} {K : Fg} {pos : Pos} {e : Expr}
end
end VL

end

section
set_option Elab.async false
set_option linter.all false
set_option maxRecDepth 100000
set_option maxHeartbeats 1000000
namespace VL
open PySem PySem.Spec PyProof.Rows L2 PySem.W

section
variable {X : Cx} {pins : List (Addr × Obj)} {σ : L2.St} {H : Hp} {s : Shared}
end
section
variable {X : Cx} {te : TE} {e : Expr} {i k : Nat} {c P : Addr} {params : Arguments} {scope : Scope} {p pos lpos kpos p1 p2 p3 p4 p5 p6 p7 p8 p10 : Pos} {k6 k9 : Nat}
end
end VL

end

section
set_option Elab.async false
set_option linter.all false
set_option maxRecDepth 100000
set_option maxHeartbeats 1000000
namespace VL
open PySem PySem.Spec PyProof.Rows L2
section
variable {X : Cx} {T T1 T2 T3 : List Nat} {W : WV} {K : Fg} {fp1 : M (Nat × List Nat)} {fn : M Tr} {fa : M Rv} {o e : Expr} {pos p : Pos}
noncomputable def isAlOf (i : Nat) : Sl → Bool
  | .al k _ => decide (k = i)
  | _ => false
noncomputable def noAl (ρ : Rho) (i : Nat) : Bool := ρ.all fun s => !isAlOf i s
noncomputable def mkAl (j : Nat) (r : Nat × List Nat) (ρ : Rho) : Option Rho := match ρ[r.1]? with
  | some (.own .pin t) => (match t.at r.2, setSl ρ j .no with
    | some _, some ρ1 => if decide (r.1 ≠ j) && noAl ρ1 r.1 then some ((ρ1.set r.1 (.own (.bor r.2) t)).set j (.al r.1 r.2)) else none
    | _, _ => none)
  | _ => none
noncomputable def sAl (j : Nat) (f : M (Nat × List Nat)) : MS := sE f fun r => fun ρ => (mkAl j r ρ).map .nx
noncomputable def pAl (j : Nat) : M (Nat × List Nat) := fun ρ => match ρ[j]? with
  | some (.al i p) => (match ρ[i]? with
    | some (.own (.bor q) _) => if q = p then some (.ok (i, p) ρ) else none
    | _ => none)
  | _ => none
noncomputable def unbor (ρ : Rho) (i : Nat) : Rho := match ρ[i]? with
  | some (.own (.bor _) t) => ρ.set i (.own .pin t)
  | _ => ρ
noncomputable def sEd (i : Nat) (g : MS) : MS := fun ρ => g (unbor ρ i)
noncomputable def modeA (ρ : Rho) (r : Nat × List Nat) : Bool := match ρ[r.1]? with
  | some (.own .lock _) => false
  | some (.own (.bor p) _) => p.isPrefixOf r.2
  | some (.own _ _) => true
  | _ => false
noncomputable def dPutA1 (T2 : List Nat) (d : PyData) (r : Nat × List Nat) (y : Rv) : MS := fun ρ => if T2.contains r.1 || !modeA ρ r then none else match y, treeAt ρ r with
  | .d kd, some (.dk kvs) => (match keyD kd, dats kvs with
    | some k, some ds => if small (ds.length + 1) then some (.nx (putAt ρ r (.dk (toT (putP ds k d))))) else none
    | _, _ => none)
  | _, _ => none
noncomputable def sDPutA (T2 : List Nat) (fe : M Rv) (f : M (Nat × List Nat)) (fk : M Rv) : MS := sE fe fun x => match x with
  | .d d => sE f fun r => sE fk (dPutA1 T2 d r)
  | .o _ => fun _ => none
variable {fe fk : M Rv} {i : Expr} {pos' : Pos} {T4 : List Nat}
end
end VL

end

section
set_option Elab.async false
set_option linter.all false
set_option maxRecDepth 100000
set_option maxHeartbeats 1000000
namespace VL
open PySem PySem.Spec PyProof.Rows L2
noncomputable def isAl : Option Sl → Bool
  | some (.al _ _) => true
  | _ => false
noncomputable def killA (ρ : Rho) (i j : Nat) (t : Tr) : Rho := (ρ.set i (.own .pin t)).set j .no
noncomputable def backA (ρ : Rho) (i : Nat) (p : List Nat) : Option Rho := match ρ[i]? with
  | some (.own _ t) => if noAl ρ i then some (ρ.set i (.own (.bor p) t)) else none
  | _ => none
noncomputable def callK (Ts : List Nat) (m : Nat) (f : Fn) (i j : Nat) (rs : List Rv) : M Tr := fun ρ => match ρ[i]? with
  | some (.own (.bor p) t) => if isAl ρ[j]? then (match callR Ts m f rs (killA ρ i j t) with
    | some (.ok r ρ1) => (match backA ρ1 i p with
      | some ρ2 => some (.ok r ρ2)
      | none => none)
    | some (.ex c ρ1) => (match backA ρ1 i p with
      | some ρ2 => some (.ex c ρ2)
      | none => none)
    | none => none) else none
  | _ => none
section
variable {K : Fg} {F H : Hp} {σ : Sg} {ρ : Rho} {fp : FP} {i j : Nat} {p : List Nat} {t : Tr}
end
section
variable {X : Cx} {T : List Nat} {W : WV} {k m : Nat} {f : Addr} {fd : FuncData} {ps : List Str} {F : Fn} {Ts : List Nat} {i j : Nat}
end
noncomputable def nMethK (c m : Str) (Ts : List Nat) (k : Nat) (G : Fn) (i j : Nat) (fs : M (List Rv)) : M Tr := fun ρ => if isCls c m ρ i then bnd fs (fun xs => callK Ts k G i j (.o i :: xs)) ρ else none
section
variable {X : Cx} {T Ts : List Nat} {W : WV} {k m0 i : Nat} {g : Addr} {fd : FuncData} {ps : List Str} {G : Fn} {x c m m' : Str} {px apos pos : Pos} {e : Expr} {es : List Expr} {fs : M (List Rv)}
end
end VL

end

section
set_option Elab.async false
set_option linter.all false
set_option maxRecDepth 100000
set_option maxHeartbeats 1000000
namespace VL
open PySem PySem.Spec PyProof.Rows L2
section
variable {X : Cx} {T T1 T2 T3 T4 : List Nat} {W : WV} {K : Fg} {fp1 : M (Nat × List Nat)} {fn : M Tr} {fa fk : M Rv} {o e i : Expr} {pos pos' p : Pos}
noncomputable def pKey (T2 : List Nat) (f : M (Nat × List Nat)) (g : M Rv) : M (Nat × List Nat) := bnd f fun r => bnd g fun y => fun ρ => if T2.contains r.1 then none else match treeAt ρ r, y with
  | some (.dk kvs), .d d => (match keyD d with
    | some k => (match keyIx k kvs with
      | some j => some (.ok (r.1, r.2 ++ [j]) ρ)
      | none => none)
    | none => none)
  | _, _ => none
noncomputable def keyT1 (T2 : List Nat) (tn : Tr) (r : Nat × List Nat) (y : Rv) : MS := fun ρ => if T2.contains r.1 || !modeA ρ r then none else match y, treeAt ρ r with
  | .d kd, some (.dk kts) => (match keyD kd with
    | some k => if small (kts.length + 1) && decide ((kts.map (·.1)).Nodup) then some (.nx (putAt ρ r (.dk (putR k tn kts)))) else none
    | none => none)
  | _, _ => none
noncomputable def sKeyT (T2 : List Nat) (g : M Tr) (f : M (Nat × List Nat)) (fk : M Rv) : MS := sE g fun tn => sE f fun r => sE fk (keyT1 T2 tn r)
end
end VL

end

section
set_option Elab.async false
set_option linter.all false
set_option maxRecDepth 100000
set_option maxHeartbeats 1000000
namespace VL
open PySem PySem.Spec PyProof.Rows L2
section
variable {X : Cx} {T T1 T2 T3 T4 : List Nat} {W : WV} {K : Fg} {fp1 : M (Nat × List Nat)} {fn : M Tr} {fa fk : M Rv} {o e i a b : Expr} {pos pos' p : Pos}
noncomputable def shr : Tr → Tr
  | .dat d => .dat d
  | .sd d => .sd d
  | _ => .hole
noncomputable def shrK (kts : List (Key × Tr)) : List (Key × Tr) := kts.map fun p => (p.1, shr p.2)
noncomputable def nCatMv (Ts T2 : List Nat) (f : M (Nat × List Nat)) (g : M Tr) : M Tr := bnd f fun r => bnd g fun tn => fun ρ => if !T2.contains r.1 && (Ts.contains r.1 && modeOk ρ r.1) then (match treeAt ρ r, tn with
  | some (.lst ts), .lst us => if small (ts.length + us.length) then some (.ok (.lst (ts ++ us)) (putAt ρ r .hole)) else none
  | _, _ => none) else none
end
end VL

end

section
set_option Elab.async false
set_option linter.all false
set_option maxRecDepth 100000
set_option maxHeartbeats 1000000
namespace VL
open PySem PySem.Spec PyProof.Rows L2
section
variable {X : Cx} {T T1 T2 T3 T4 : List Nat} {W : WV} {K : Fg} {fp1 : M (Nat × List Nat)} {fn : M Tr} {fa fk : M Rv} {o e i a b : Expr} {pos pos' p : Pos}
noncomputable def copiesM : List Tr → Option (List (List (Key × Tr)))
  | [] => some []
  | .dk kts :: ts => (match copiesM ts with
    | some r => some (kts :: r)
    | none => none)
  | _ :: _ => none
noncomputable def copyM (dss : List (List (Key × Tr))) : List Tr := dss.map fun ds => .dk (shrK ds)
noncomputable def nCopyM (v : Nat) (f : M (Nat × List Nat)) : M Tr := bnd f fun r => fun ρ => match treeAt ρ r with
  | some (.lst ts) => (match copiesM ts with
    | some dss => if decide (v < ρ.length) && small dss.length then some (.ok (.lst (copyM dss)) ρ) else none
    | none => none)
  | _ => none
noncomputable def cCmpP (g : PyData → PyData → Option Bool) (T2 : List Nat) (fa : M Rv) (f : M (Nat × List Nat)) : M Bool := bnd fa fun x => bnd f fun r => fun ρ => match der ρ x, (treeAt ρ r).bind Tr.toD with
  | some a, some b => (match g a b with
    | some z => some (.ok z ρ)
    | none => none)
  | _, _ => none
end
end VL

end

section
set_option Elab.async false
set_option linter.all false
set_option maxRecDepth 100000
set_option maxHeartbeats 1000000
namespace VL
open PySem PySem.Spec PyProof.Rows L2
section
variable {X : Cx} {T T1 T2 T3 T4 : List Nat} {W : WV} {K : Fg} {fp1 : M (Nat × List Nat)} {fn : M Tr} {fa fk : M Rv} {o e i a b : Expr} {pos pos' p : Pos}
noncomputable def nCutMv (Ts T2 : List Nat) (f : M (Nat × List Nat)) (fl fh : M (Option Int)) : M Tr := bnd f fun r => bnd fl fun lo => bnd fh fun hi => fun ρ => if !T2.contains r.1 && (Ts.contains r.1 && modeOk ρ r.1) then (match treeAt ρ r with
  | some (.lst ts) => some (.ok (.lst (cutL ts lo hi)) (putAt ρ r .hole))
  | _ => none) else none
variable {fl fh : M (Option Int)} {lo hi : Option Expr} {p2 : Pos}
noncomputable def nCallP (G : Fn) (f : M (Nat × List Nat)) : M Tr := bnd f fun r => fun ρ => match treeAt ρ r with
  | some t => (match G [.own .lock t] with
    | some (.ret (.dat d), _) => some (.ok (.dat d) ρ)
    | _ => none)
  | none => none
end
end VL

end

section
set_option Elab.async false
set_option linter.all false
set_option maxRecDepth 100000
set_option maxHeartbeats 1000000
namespace VL
open PySem PySem.Spec PyProof.Rows L2
section
variable {X : Cx} {T T1 T2 T3 T4 : List Nat} {W : WV} {K : Fg} {fp1 : M (Nat × List Nat)} {fn : M Tr} {fa fk : M Rv} {o e a b : Expr} {pos pos' p tpos : Pos}
noncomputable def tFrz (t : TS) : TS := fun D σ H => ∃ d u, H d = some u ∧ Mut (some u) ∧ ∀ od, t D σ (upd H d (.frz od u))
theorem ps_frz {st : Stmt} {t : TS} (h : PS X st t) : PS X st (tFrz t) := ⟨fun pins s σ H D I ⟨d, u, hd, mu, hw⟩ => by
  obtain ⟨od, I1⟩ := I.lock hd mu
  exact h.run pins s σ _ D I1 (hw od)⟩
noncomputable def fzP (ρ : Rho) (r : Nat × List Nat) : Option Rho := if modeA ρ r then (match treeAt ρ r with
  | some (.dk kts) => (match dats kts with
    | some ds => some (putAt ρ r (.sd ds))
    | none => none)
  | _ => none) else none
noncomputable def sFzP (f : M (Nat × List Nat)) (g : MS) : MS := fun ρ => match f ρ with
  | some (.ok r _) => (match fzP ρ r with
    | some ρ1 => g ρ1
    | none => none)
  | _ => none
noncomputable def nDictS (f : M (Nat × List Nat)) : M Tr := bnd f fun r => fun ρ => match treeAt ρ r with
  | some (.sd ds) => some (.ok (.dk (toT ds)) ρ)
  | _ => none
noncomputable def lkS (ρ : Rho) (i : Nat) : Option Rho := if modeOk ρ i then (match ρ[i]? with
  | some (.own _ t) => some (ρ.set i (.own .lock t))
  | _ => none) else none
noncomputable def cLk (i : Nat) (f : M Rv) : M Rv := fun ρ => match lkS ρ i with
  | some ρ1 => (match f ρ1 with
    | some (.ok (.d d) ρ2) => (match ρ[i]? with
      | some s => some (.ok (.d d) (ρ2.set i s))
      | none => none)
    | _ => none)
  | none => none
end
end VL

end

section
set_option Elab.async false
set_option linter.all false
set_option maxRecDepth 100000
set_option maxHeartbeats 1000000
namespace VL
open PySem PySem.Spec PyProof.Rows L2
section
variable {X : Cx} {T T1 T2 T3 T4 : List Nat} {W : WV} {K : Fg} {fp1 : M (Nat × List Nat)} {o e a b : Expr} {pos pos' : Pos}
end
end VL

end

section
set_option Elab.async false
set_option linter.all false
set_option maxRecDepth 100000
set_option maxHeartbeats 1000000
namespace VL
open PySem PySem.Spec PyProof.Rows L2
section
variable {K : Fg} {F H : Hp} {σ : Sg} {ρ : Rho} {fp : FP} {jn jo k : Nat} {r : Nat × List Nat} {ρ1 : Rho} {m : Md} {t : Tr}
structure EnIn (K : Fg) (F H : Hp) (σ : Sg) (ρ : Rho) (fp : FP) (jn jo k : Nat) (r : Nat × List Nat) (ρ1 : Rho) (m : Md) (t : Tr) (u v : V) (pre B post : List Addr) (tk : Tr) : Prop where
  hi : ρ[r.1]? = some (.own m t)
  hm : modeOk ρ r.1 = true
  ns : r.1 ≠ jn ∧ r.1 ≠ jo ∧ jn ≠ jo ∧ jn < ρ.length ∧ jo < ρ.length
  nn : (∀ m t, ρ[jn]? ≠ some (.own m t)) ∧ ∀ m t, ρ[jo]? ≠ some (.own m t)
  hu : sg σ r.1 = some u
  hat : t.at (r.2 ++ [k]) = some tk
  hv : pathV H u (r.2 ++ [k]) = some v
  hfp : fp r.1 = pre ++ (B ++ post)
  r1 : ρ1 = ((ρ.set r.1 (.own .lock (t.put (r.2 ++ [k]) .hole))).set jn (.val (.int (k : Nat)))).set jo (.own .pin tk)
  env : EnvOk K F H ((σ.set jn (some (.int (k : Nat)))).set jo (some v)) ρ1 (fset (fset fp r.1 (pre ++ post)) jo B)
  back : ∀ F' H' t'' B', Same F F' → (∀ b, b ∈ pre ∨ b ∈ post → H' b = H b ∧ F' b = none) → TrOk K F' H' v t'' B' → TrOk K F' H' u (t.put (r.2 ++ [k]) t'') (pre ++ (B' ++ post)) ∧ pathV H' u (r.2 ++ [k]) = some v
  hole : TrOk K F H u (t.put (r.2 ++ [k]) .hole) (pre ++ post)
end
section
variable {X : Cx} {T : List Nat} {W : WV} {fp1 : M (Nat × List Nat)} {pos pos' p : Pos}
end
end VL

end

section
set_option Elab.async false
set_option linter.all false
set_option maxRecDepth 100000
set_option maxHeartbeats 1000000
namespace VL
open PySem PySem.Spec PyProof.Rows L2
section
variable {X : Cx} {T : List Nat} {W : WV} {fs : M (List Rv)} {pos : Pos}
noncomputable def sPar (i j : Nat) (fs : M (List Rv)) : MS := sE fs fun rs => fun ρ => match rs with
  | [.d a, .d b] => (match setSl ρ i (.val a) with
    | some ρ1 => (setSl ρ1 j (.val b)).map .nx
    | none => none)
  | _ => none
end
end VL

end

section
set_option Elab.async false
set_option linter.all false
set_option maxRecDepth 100000
namespace SM
open PySem PySem.Spec PyProof.Rows L2 VL
noncomputable def s_count : Str := ⟨#[99, 111, 117, 110, 116]⟩
theorem e_count : ("count" : Str) = s_count := by decide +kernel
noncomputable def s_side : Str := ⟨#[115, 105, 100, 101]⟩
theorem e_side : ("side" : Str) = s_side := by decide +kernel
noncomputable def s_price : Str := ⟨#[112, 114, 105, 99, 101]⟩
theorem e_price : ("price" : Str) = s_price := by decide +kernel
noncomputable def s_left : Str := ⟨#[108, 101, 102, 116]⟩
noncomputable def s_done : Str := ⟨#[100, 111, 110, 101]⟩
noncomputable def s_void : Str := ⟨#[118, 111, 105, 100]⟩
noncomputable def s_Hall : Str := ⟨#[72, 97, 108, 108]⟩
noncomputable def s_past : Str := ⟨#[112, 97, 115, 116]⟩
noncomputable def s_dealt : Str := ⟨#[100, 101, 97, 108, 116]⟩
noncomputable def s_put_up : Str := ⟨#[112, 117, 116, 95, 117, 112]⟩
noncomputable def s_made : Str := ⟨#[109, 97, 100, 101]⟩
noncomputable def s_held : Str := ⟨#[104, 101, 108, 100]⟩
noncomputable def s_offered : Str := ⟨#[111, 102, 102, 101, 114, 101, 100]⟩
noncomputable def s_opened : Str := ⟨#[111, 112, 101, 110, 101, 100]⟩
noncomputable def s_moment : Str := ⟨#[109, 111, 109, 101, 110, 116]⟩
noncomputable def s_start : Str := ⟨#[115, 116, 97, 114, 116]⟩
noncomputable def s_size : Str := ⟨#[115, 105, 122, 101]⟩
noncomputable def s_two : Str := ⟨#[116, 119, 111]⟩
noncomputable def s_cards : Str := ⟨#[99, 97, 114, 100, 115]⟩
noncomputable def s_word : Str := ⟨#[119, 111, 114, 100]⟩
noncomputable def s_end : Str := ⟨#[101, 110, 100]⟩
noncomputable def s_need_bargain : Str := ⟨#[110, 101, 101, 100, 95, 98, 97, 114, 103, 97, 105, 110]⟩
noncomputable def s_need_member : Str := ⟨#[110, 101, 101, 100, 95, 109, 101, 109, 98, 101, 114]⟩
noncomputable def s_signs : Str := ⟨#[115, 105, 103, 110, 115]⟩
noncomputable def s_pass : Str := ⟨#[112, 97, 115, 115]⟩
noncomputable def s_settle : Str := ⟨#[115, 101, 116, 116, 108, 101]⟩
noncomputable def s_consent : Str := ⟨#[99, 111, 110, 115, 101, 110, 116]⟩
noncomputable def s_lower : Str := ⟨#[108, 111, 119, 101, 114]⟩
noncomputable def s_take : Str := ⟨#[116, 97, 107, 101]⟩
noncomputable def s_hold : Str := ⟨#[104, 111, 108, 100]⟩
noncomputable def s_close : Str := ⟨#[99, 108, 111, 115, 101]⟩
noncomputable def s_consents : Str := ⟨#[99, 111, 110, 115, 101, 110, 116, 115]⟩
noncomputable def s_called : Str := ⟨#[99, 97, 108, 108, 101, 100]⟩
noncomputable def s_back : Str := ⟨#[98, 97, 99, 107]⟩
noncomputable def tb_OTHERS : List (Str × PyData) := [(sIn, (.str sOut)), (sOut, (.str sIn)), (sChin, (.str sBrow)), (sBrow, (.str sChin))]
noncomputable def g_is_whole : MS := (sRet (nDat (cAndV (cIsi .int (cVar 0)) (cNotV (cIsi .bool (cVar 0))))))
noncomputable def F_is_whole : Fn := runF 1 g_is_whole
noncomputable def g_is_within : MS := (sRet (nDat (cAndV (cFrz (nCall [0] 1 F_is_whole (aCons (cVar 0) aNil))) (cOf (cChain leD leD (cVar 1) (cVar 0) (cVar 2))))))
noncomputable def F_is_within : Fn := runF 3 g_is_within
noncomputable def g_is_showing : MS := (sSeq (sIf (cOr (cNot (cTest (cIsi .tuple (cVar 0)))) (cOr (cCmp neD (cCall lenD (aCons (cVar 0) aNil)) (cD (.int 2))) (cNot (cTest (cFrz (nCall [] 3 F_is_within (aCons (cBin subD (cVar 0) (cD (.int 0))) (aCons (cD (.int 1)) (aCons (cD (.int 9)) aNil))))))))) (sRet (nDat (cD (.bool false)))) sNil)
  (sRet (nDat (cAndV (cIsi .str (cBin subD (cVar 0) (cD (.int 1)))) (cOf (cCmp inD (cBin subD (cVar 0) (cD (.int 1))) (cD (.tuple [(.str sChin), (.str sBrow)]))))))))
noncomputable def F_is_showing : Fn := runF 1 g_is_showing
noncomputable def g_is_sign : MS := (sSeq (sIf (cOr (cNot (cTest (cIsi .tuple (cVar 0)))) (cOr (cCmp neD (cCall lenD (aCons (cVar 0) aNil)) (cD (.int 4))) (cNot (cTest (cFrz (nCall [] 1 F_is_showing (aCons (cCut (cVar 0) (oSome (cD (.int 2))) oNone) aNil))))))) (sRet (nDat (cD (.bool false)))) sNil)
  (sRet (nDat (cAndV (cIsi .str (cBin subD (cVar 0) (cD (.int 0)))) (cAndV (cOf (cCmp inD (cBin subD (cVar 0) (cD (.int 0))) (cD (.tuple [(.str sIn), (.str sOut)])))) (cFrz (nCall [] 3 F_is_within (aCons (cBin subD (cVar 0) (cD (.int 1))) (aCons (cD (.int 0)) (aCons (cD (.int 9)) aNil))))))))))
noncomputable def F_is_sign : Fn := runF 1 g_is_sign
noncomputable def g_lots_of : MS := (sSeq (sAsg (gT 2 (gsC (gN 1) (gsC (gN 2) gsN))) (cCut (cVar 0) (oSome (cNeg (cD (.int 2)))) oNone))
  (sSeq (sIf (cCmp eqD (cVar 2) (cD (.str sBrow))) (sRet (nDat (cBin mulD (cD (.int 10)) (cVar 1)))) sNil)
  (sRetV 1)))
noncomputable def F_lots_of : Fn := runF 3 g_lots_of
noncomputable def g_other_part : MS := (sSeq (sIf (cTest (cIsi .str (cVar 0))) (sRet (nDat (cTab tb_OTHERS (cVar 0)))) sNil)
  (sSeq (sIf (cCmp eqD (cBin modD (cVar 0) (cD (.int 5))) (cD (.int 0))) (sRet (nDat (cD .none))) sNil)
  (sRet (nDat (cBin modD (cBin addD (cVar 0) (cD (.int 5))) (cD (.int 10)))))))
noncomputable def F_other_part : Fn := runF 1 g_other_part
noncomputable def b_alikes_0 : MS := (sSeq (sSet 4 (cFrz (nCall [3] 1 F_other_part (aCons (cVar 3) aNil))))
  (sIf (cCmp notND (cVar 4) (cD .none)) (sApp [] (pVar 1) (nDat (cBin addD (cBin addD (cCut (cVar 0) oNone (oSome (cVar 2))) (cTup (aCons (cVar 4) aNil))) (cCut (cVar 0) (oSome (cBin addD (cVar 2) (cD (.int 1)))) oNone)))) sNil))
noncomputable def g_alikes : MS := (sSeq (sSetN 1 (nLst aNil))
  (sSeq (sFor (iEnumD (aCons (cVar 0) aNil)) (gT 2 (gsC (gN 2) (gsC (gN 3) gsN))) b_alikes_0)
  (sRetV 1)))
noncomputable def F_alikes : Fn := runF 5 g_alikes
noncomputable def g_belong : MS := (sRet (nDat (cAndV (cOf (cCmp eqD (cBin subD (cVar 0) (cD (.int 0))) (cBin subD (cVar 1) (cD (.int 1))))) (cAndV (cOf (cCmp eqD (cBin subD (cVar 0) (cD (.int 1))) (cBin subD (cVar 1) (cD (.int 0))))) (cOf (cCmp eqD (cBin subD (cVar 0) (cD (.int 5))) (cBin subD (cVar 1) (cD (.int 5)))))))))
noncomputable def F_belong : Fn := runF 2 g_belong
noncomputable def g__law_quarrel : MS := (sSeq (sIf (cCmp neD (cTup (aCons (cBin subD (cVar 0) (cD (.int 0))) (aCons (cBin subD (cVar 0) (cD (.int 1))) (aCons (cBin subD (cVar 0) (cD (.int 5))) aNil)))) (cTup (aCons (cBin subD (cVar 1) (cD (.int 1))) (aCons (cBin subD (cVar 1) (cD (.int 0))) (aCons (cBin subD (cVar 1) (cD (.int 5))) aNil))))) (sRet (nDat (cD .none))) sNil)
  (sSeq (sSet 2 (cBin addD (cBin repD (cFrz (nLst (aCons (cD (.str s_side)) aNil))) (cCall intD (aCons (cOf (cCmp eqD (cBin subD (cVar 0) (cD (.int 2))) (cBin subD (cVar 1) (cD (.int 2))))) aNil))) (cBin repD (cFrz (nLst (aCons (cD (.str s_price)) aNil))) (cCall intD (aCons (cOf (cCmp neD (cBin subD (cVar 0) (cD (.int 3))) (cBin subD (cVar 1) (cD (.int 3))))) aNil)))))
  (sRet (nDat (cCall tupleD (aCons (cBin addD (cVar 2) (cBin repD (cFrz (nLst (aCons (cD (.str s_count)) aNil))) (cCall intD (aCons (cOf (cCmp neD (cBin subD (cVar 0) (cD (.int 4))) (cBin subD (cVar 1) (cD (.int 4))))) aNil)))) aNil))))))
noncomputable def F__law_quarrel : Fn := runF 3 g__law_quarrel
noncomputable def g_quarrel_of : MS := (sSeq (sIf (cNot (cTest (cFrz (nCall [0, 1] 2 F_belong (aCons (cVar 0) (aCons (cVar 1) aNil)))))) (sRaise s_Unlike) sNil)
  (sSeq (sSetN 2 (nLst aNil))
  (sSeq (sIf (cCmp eqD (cBin subD (cVar 0) (cD (.int 2))) (cBin subD (cVar 1) (cD (.int 2)))) (sApp [] (pVar 2) (nDat (cD (.str s_side)))) sNil)
  (sSeq (sIf (cCmp neD (cBin subD (cVar 0) (cD (.int 3))) (cBin subD (cVar 1) (cD (.int 3)))) (sApp [] (pVar 2) (nDat (cD (.str s_price)))) sNil)
  (sSeq (sIf (cCmp neD (cBin subD (cVar 0) (cD (.int 4))) (cBin subD (cVar 1) (cD (.int 4)))) (sApp [] (pVar 2) (nDat (cD (.str s_count)))) sNil)
  (sRet (nDat (cCall tupleD (aCons (cVar 2) aNil)))))))))
noncomputable def F_quarrel_of : Fn := runF 3 g_quarrel_of
noncomputable def b_called_price_0 : MS := (sIf (cCmp eqD (cVar 5) (cVar 2)) (sDPut [] (cBin addD (cDGet2 [] (pVar 4) (cVar 6) (cD (.int 0))) (cVar 7)) (pVar 4) (cVar 6)) sNil)
noncomputable def g_called_price : MS := (sSeq (sIf (cCmp eqD (cVar 0) (cFrz (nLst aNil))) (sRetV 1) sNil)
  (sSeq (sSet 2 (cCall maxD (aCons (cFrz (nComp (iSeq (cVar 0)) [3] (gN 3) tYesM (cBin subD (cVar 3) (cD (.int 0))))) aNil)))
  (sSeq (sSetN 4 (nNew (.dk [])))
  (sSeq (sFor (iSeq (cVar 0)) (gT 3 (gsC (gN 5) (gsC (gN 6) (gsC (gN 7) gsN)))) b_called_price_0)
  (sRet (nDat (cBin subD (cCall maxTD (aCons (cFrz (nLock 4 (nComp (iKeyF 4) [6] (gN 6) tYesM (cTup (aCons (cDGet [] (pVar 4) (cVar 6)) (aCons (cVar 6) aNil)))))) aNil)) (cD (.int 1)))))))))
noncomputable def F_called_price : Fn := runF 8 g_called_price
noncomputable def g_Hall_need_member : MS := (sIf (cOr (cCmp ltD (cVar 1) (cD (.int 0))) (cCmp geD (cVar 1) (cLeaf (pFld s_Hall s_size (pVar 0))))) (sRaise s_NoMember) sNil)
noncomputable def F_Hall_need_member : Fn := runF 2 g_Hall_need_member
noncomputable def g_Hall_need_bargain : MS := (sIf (cOr (cCmp ltD (cVar 1) (cD (.int 0))) (cCmp geD (cVar 1) (cLenP (pFld s_Hall s_made (pVar 0))))) (sRaise s_NoBargain) sNil)
noncomputable def F_Hall_need_bargain : Fn := runF 2 g_Hall_need_bargain
noncomputable def g_Hall_need_theirs : MS := (sSeq (sDrop (cFrz (nMeth s_Hall s_need_member [0, 1] 2 F_Hall_need_member 0 (aCons (cVar 1) aNil))))
  (sSeq (sDrop (cFrz (nMeth s_Hall s_need_bargain [0, 2] 2 F_Hall_need_bargain 0 (aCons (cVar 2) aNil))))
  (sIf (cCmp notInD (cVar 1) (cDGet [] (pIx [] (pFld s_Hall s_made (pVar 0)) (cVar 2)) (cD (.str s_two)))) (sRaise s_NotTheirs) sNil)))
noncomputable def F_Hall_need_theirs : Fn := runF 3 g_Hall_need_theirs
end SM

end

section
set_option Elab.async false
set_option linter.all false
set_option maxRecDepth 100000
set_option maxHeartbeats 1000000
namespace VL
open PySem PySem.Spec PyProof.Rows L2
noncomputable def rEmpD : R2 := fun x y H Q => ∃ a b ks, x = .ref a ∧ y = .ref b ∧ H a = some (.dK ks) ∧ H b = some (.dK []) ∧ Q (.bl ks.isEmpty) H
section
variable {X : Cx} {T T1 T2 : List Nat} {W : WV} {K : Fg} {pos p : Pos} {a b e : Expr} {fp1 : M (Nat × List Nat)} {fn : M Tr}
theorem op_eqD (hu : X.A.units < cLine) : OpR X (compareOp .Eq) rEmpD := by
  intro pins s σ H x y v u Q I rx ry h
  obtain ⟨a, b, ks, rfl, rfl, ea, eb, q⟩ := h
  obtain rfl : v = Value.ref a := rx
  obtain rfl : u = Value.ref b := ry
  obtain ⟨_, ya, va, ra, da⟩ := (show ObjOk X.prog X.w H s.heap a (.dK ks) from I.hok a _ ea)
  obtain ⟨_, yb, vb, rb, db⟩ := (show ObjOk X.prog X.w H s.heap b (.dK []) from I.hok b _ eb)
  have lb : vb.length = 0 := by rw [← rb.length]; rfl
  have la : ks.length = va.length := ra.length
  cases va with
  | nil =>
    have ek : ks = [] := List.eq_nil_of_length_eq_zero (by simpa using la)
    subst ek
    exact PySem.W.keq_eq (knd := mixKind X.prog X.w) (r := true) ya yb da db hu (fun _ => .nil) (fin_bl I q (by simp [lb]))
  | cons c cs =>
    have ek : ks.isEmpty = false := by
      cases ks with
      | nil => simp at la
      | cons _ _ => rfl
    rw [ek] at q
    exact PySem.W.keq_eq (knd := mixKind X.prog X.w) (r := true) ya yb da db hu (fun z => by rw [lb] at z; simp at z) (fin_bl I q (by simp [lb]))
end
end VL

end

section
set_option Elab.async false
set_option linter.all false
set_option maxRecDepth 100000
set_option maxHeartbeats 1000000
namespace VL
open PySem PySem.Spec PyProof.Rows L2
section
variable {X : Cx} {T T1 T2 : List Nat} {W : WV} {K : Fg} {pos : Pos} {fp1 : M (Nat × List Nat)}
end
end VL

end

section
set_option Elab.async false
set_option linter.all false
set_option maxRecDepth 100000
namespace SN
open PySem PySem.Spec PyProof.Rows L2 VL SM SN
end SN

end

section
set_option Elab.async false
set_option linter.all false
set_option maxRecDepth 100000
set_option maxHeartbeats 1000000
namespace VL
open PySem PySem.Spec PyProof.Rows L2
section
variable {K : Fg} {F H : Hp} {σ : Sg} {ρ : Rho} {fp : FP} {i j : Nat} {r : Nat × List Nat} {ρ1 : Rho} {m : Md} {t : Tr}
structure W2In (K : Fg) (F H : Hp) (σ : Sg) (ρ : Rho) (fp : FP) (i j : Nat) (r : Nat × List Nat) (ρ1 : Rho) (m : Md) (t : Tr) (u : V) (a : Addr) (va vb : V) (pre Ba Bb post : List Addr) (ta tb : Tr) : Prop where
  hi : ρ[r.1]? = some (.own m t)
  hm : modeOk ρ r.1 = true
  ns : r.1 ≠ i ∧ r.1 ≠ j ∧ i ≠ j ∧ i < ρ.length ∧ j < ρ.length
  nn : (∀ m t, ρ[i]? ≠ some (.own m t)) ∧ ∀ m t, ρ[j]? ≠ some (.own m t)
  hu : sg σ r.1 = some u
  hat : t.at r.2 = some (.tup [ta, tb])
  hv : pathV H u r.2 = some (.ref a)
  ha : H a = some (.tup [va, vb])
  hfp : fp r.1 = pre ++ ((a :: (Ba ++ Bb)) ++ post)
  r1 : ρ1 = ((ρ.set r.1 (.own .lock (t.put r.2 (.tup [.hole, .hole])))).set i (.own .pin ta)).set j (.own .pin tb)
  env : EnvOk K F H ((σ.set i (some va)).set j (some vb)) ρ1 (fset (fset (fset fp r.1 (pre ++ (a :: post))) i Ba) j Bb)
  back : ∀ F' H' ta' tb' Ba' Bb', Same F F' → (∀ b, b ∈ pre ++ (a :: post) → H' b = H b ∧ F' b = none) → TrOk K F' H' va ta' Ba' → TrOk K F' H' vb tb' Bb' → TrOk K F' H' u (t.put r.2 (.tup [ta', tb'])) (pre ++ ((a :: (Ba' ++ Bb')) ++ post)) ∧ pathV H' u r.2 = some (.ref a)
  hole : TrOk K F H u (t.put r.2 (.tup [.hole, .hole])) (pre ++ (a :: post))
end
section
variable {X : Cx} {T : List Nat} {W : WV} {fp1 : M (Nat × List Nat)} {pos : Pos}
end
end VL

end

section
set_option Elab.async false
set_option linter.all false
set_option maxRecDepth 100000
set_option maxHeartbeats 1000000
namespace VL
open PySem PySem.Spec PyProof.Rows L2
inductive PAr where
  | v (x : Rv)
  | p (r : Nat × List Nat)
noncomputable def PArOk (K : Fg) (F H : Hp) (σ : Sg) (ρ : Rho) (v : V) : PAr → Prop
  | .v x => RvOk K F σ ρ v x
  | .p r => ∃ u m t t', sg σ r.1 = some u ∧ ρ[r.1]? = some (Sl.own m t) ∧ t.at r.2 = some t' ∧ pathV H u r.2 = some v
inductive PArsOk (K : Fg) (F H : Hp) (σ : Sg) (ρ : Rho) : List V → List PAr → Prop
  | nil : PArsOk K F H σ ρ [] []
  | cons {v vs r rs} : PArOk K F H σ ρ v r → PArsOk K F H σ ρ vs rs → PArsOk K F H σ ρ (v :: vs) (r :: rs)
section
variable {X : Cx} {T T1 T2 T3 : List Nat} {W : WV} {K : Fg} {pos p : Pos} {e : Expr} {es : List Expr} {fp1 : M (Nat × List Nat)} {fa : M Rv} {fs : M (List PAr)}
end
section
variable {K : Fg} {F H F' H' : Hp} {σ σ' : Sg} {ρ ρ3 : Rho} {fp fp3 : FP}
theorem ext_get {j : Nat} {s : Sl} (h : (ρ ++ [Sl.no, Sl.no])[j]? = some s) : ρ[j]? = some s ∨ (ρ.length ≤ j ∧ s = .no) := by
  by_cases hj : j < ρ.length
  · rw [List.getElem?_append_left hj] at h
    exact .inl h
  · rw [List.getElem?_append_right (by omega)] at h
    refine .inr ⟨by omega, ?_⟩
    match hk : j - ρ.length with
    | 0 => rw [hk] at h; simpa using h.symm
    | 1 => rw [hk] at h; simpa using h.symm
    | n + 2 => rw [hk] at h; simp at h
theorem ext_lt {j : Nat} (h : j < ρ.length) : (ρ ++ [Sl.no, Sl.no])[j]? = ρ[j]? := List.getElem?_append_left h
theorem ext_own {j : Nat} {m : Md} {t : Tr} (h : ρ[j]? = some (.own m t)) : (ρ ++ [Sl.no, Sl.no])[j]? = some (.own m t) := by
  rw [ext_lt (List.getElem?_eq_some_iff.mp h).1]; exact h
theorem ext_sg {j : Nat} (h : j < σ.length) : sg (σ ++ [none, none]) j = sg σ j := by
  unfold sg
  rw [List.getElem?_append_left h]
theorem ext_env (E : EnvOk K F H σ ρ fp) : EnvOk K F H (σ ++ [none, none]) (ρ ++ [.no, .no]) fp := by
  have hl := E.len
  refine ⟨E.sub, by simp [hl], fun j s h => ?_, fun j h => ?_, E.nd, E.ap, E.tb, fun j i p t h1 h2 => ?_⟩
  · rcases ext_get h with z | ⟨_, z⟩
    · have := (List.getElem?_eq_some_iff.mp z).1
      rw [ext_sg (by omega)]
      exact E.sl j s z
    · subst z; trivial
  · exact E.nil j fun m t z => h m t (ext_own z)
  · rcases ext_get h1 with z1 | ⟨_, z1⟩
    · rcases ext_get h2 with z2 | ⟨_, z2⟩
      · have a1 := (List.getElem?_eq_some_iff.mp z1).1
        have a2 := (List.getElem?_eq_some_iff.mp z2).1
        obtain ⟨t', u, v, c1, c2, c3, c4⟩ := E.al j i p t z1 z2
        exact ⟨t', u, v, c1, (ext_sg (by omega)).trans c2, (ext_sg (by omega)).trans c3, c4⟩
      · cases z2
    · cases z1
theorem take_get {n j : Nat} {s : Sl} (h : (ρ3.take n)[j]? = some s) : j < n ∧ ρ3[j]? = some s := by
  rw [List.getElem?_take] at h
  split at h
  · rename_i hj; exact ⟨hj, h⟩
  · cases h
theorem take_lt {n j : Nat} (h : j < n) : (ρ3.take n)[j]? = ρ3[j]? := by rw [List.getElem?_take, if_pos h]
end
noncomputable def PAr.rv (n : Nat) : PAr → Rv
  | .v x => x
  | .p _ => .o n
section
variable {K : Fg} {F H : Hp} {σ : Sg} {ρ ρa : Rho} {fp : FP} {i k : Nat} {q : List Nat} {m : Md} {t : Tr} {u v : V} {pre B post : List Addr} {tk : Tr}
end
section
variable {X : Cx} {T : List Nat} {W : WV} {k m : Nat} {f : Addr} {fd : FuncData} {ps : List Str} {F : Fn} {x : Str} {p pos : Pos} {e : Expr} {es : List Expr} {fs : M (List PAr)} {Ts : List Nat}
theorem callN_sp {F1 H1 : Hp} {σ : Sg} {ρ1 : Rho} {fp1 : FP} {rs : List Rv} {vs : List V} {o : Er Tr} {Q : VK} {E0 : XK} (s1 : EnvOk X.K F1 H1 σ ρ1 fp1) (r1 : RvsOk X.K F1 σ ρ1 vs rs) (e1 : callN Ts m F rs ρ1 = some o) (P1 : Pst (T ++ Ts) W (rlN X.K) F1 H1 σ ρ1 fp1 Q o) :
    spV X.K Wx0 m F vs H1 Q E0 := by
  unfold callN at e1
  split at e1
  · rename_i args hargs
    split at e1
    · rename_i ho
      rw [Bool.and_eq_true, Bool.and_eq_true] at ho
      split at e1
      · rename_i t outs hf
        split at e1
        · rename_i hbk
          cases ok_inj e1
          refine ⟨?_, F1, args, fpArgs rs fp1, _, outs, args_env s1 r1 hargs ho.2.1, hf, fun v A H' F' fp' st n => ?_⟩
          · rw [rvs_len r1]; exact of_decide_eq_true ho.1
          · have s2 := call_step (Ts := Ts) s1 r1 hargs ho.2.1 ho.2.2 st fun k m t h => backOk_get hbk h
            exact P1 v H' F' _ (s2.sub fun i hi => List.mem_append_right _ hi) ⟨A, call_new s1 ho.2.1 n⟩
        · cases e1
      · cases e1
    · cases e1
  · cases e1
end
end VL

end

section
set_option Elab.async false
set_option linter.all false
set_option maxRecDepth 100000
set_option maxHeartbeats 1000000
namespace VL
open PySem PySem.Spec PyProof.Rows L2
noncomputable def rlX (K : Fg) : Rl K (List Rv × Tr) (List V) := ⟨fun H fp F' H' fp' σ ρ' vs a => ∃ us v A, vs = us ++ [v] ∧ RvsOk K F' σ ρ' us a.1 ∧ NewOk K H fp F' H' fp' v a.2 A, fun e ⟨us, v, A, h1, h2, h3⟩ => ⟨us, v, A, h1, h2, h3.back e.st⟩⟩
noncomputable def VAx (X : Cx) (T : List Nat) (W : WV) (es : List Expr) (f : M (List Rv × Tr)) : Prop := PA X es (fun σ H Q => TVg T W (rlX X.K) f σ H Q)
noncomputable def xLast (f : M Tr) : M (List Rv × Tr) := bnd f fun t => ret ([], t)
noncomputable def xCons (f : M Rv) (g : M (List Rv × Tr)) : M (List Rv × Tr) := bnd f fun x => bnd g fun p => ret (x :: p.1, p.2)
section
variable {X : Cx} {T T1 T2 : List Nat} {W : WV} {K : Fg} {e : Expr} {es : List Expr} {fn : M Tr} {fa : M Rv} {fs : M (List Rv × Tr)}
theorem vax_last (h : VN X T W e fn) (hs : starEach [e] X.env = (false, eval e X.env) :: starEach [] X.env := by rfl) : VAx X T W [e] (xLast fn) :=
  pa_imp (pa_cons h pa_nil hs) fun σ H Q ⟨F, ρ, fp, o, E, e, P⟩ => by
    unfold xLast bnd at e
    cases h1 : fn ρ with
    | none => rw [h1] at e; cases e
    | some r =>
      rw [h1] at e
      cases r with
      | ex c ρ1 => cases e; exact ⟨F, ρ, fp, _, E, h1, fun H1 F1 fp1 st => P H1 F1 fp1 st⟩
      | ok t ρ1 =>
        cases ok_inj e
        exact ⟨F, ρ, fp, _, E, h1, fun v H1 F1 fp1 s1 ⟨A, n1⟩ => P [v] H1 F1 fp1 s1 ⟨[], v, A, rfl, .nil, n1⟩⟩
theorem vax_cons (ha : VE X T1 W e fa) (hb : VAx X T2 W es fs) (hs : starEach (e :: es) X.env = (false, eval e X.env) :: starEach es X.env := by rfl) : VAx X (T1 ++ T2) W (e :: es) (xCons fa fs) :=
  pa_imp (pa_cons ha hb hs) fun σ H Q ⟨F, ρ, fp, o, E, e, P⟩ => by
    unfold xCons bnd at e
    cases h1 : fa ρ with
    | none => rw [h1] at e; cases e
    | some r =>
      rw [h1] at e
      cases r with
      | ex c ρ1 =>
        cases e
        exact ⟨F, ρ, fp, _, E, h1, fun H1 F1 fp1 st => P H1 F1 fp1 (st.sub fun i hi => List.mem_append_left _ hi)⟩
      | ok x ρ1 =>
        refine ⟨F, ρ, fp, _, E, h1, fun w H1 F1 fp1 s1 r1 => ?_⟩
        simp only at e
        cases h2 : fs ρ1 with
        | none => rw [h2] at e; cases e
        | some r2 =>
          rw [h2] at e
          cases r2 with
          | ex c ρ2 =>
            cases e
            exact ⟨F1, ρ1, fp1, _, s1.env, h2, fun H2 F2 fp2 s2 => P H2 F2 fp2 ((s1.sub fun i hi => List.mem_append_left _ hi).trans (s2.sub fun i hi => List.mem_append_right _ hi))⟩
          | ok p ρ2 =>
            cases ok_inj e
            refine ⟨F1, ρ1, fp1, _, s1.env, h2, fun vs H2 F2 fp2 s2 ⟨us, v, A, hv, r2, n2⟩ => ?_⟩
            subst hv
            exact P _ H2 F2 fp2 ((s1.sub fun i hi => List.mem_append_left _ hi).trans (s2.sub fun i hi => List.mem_append_right _ hi)) ⟨w :: us, v, A, rfl, .cons (RvOk.step s2 r1) r2, n2.back s1.st⟩
end
noncomputable def callX (Ts : List Nat) (m : Nat) (f : Fn) (a : List Rv × Tr) : M Tr := fun ρ => if Ts.all (fun j => decide (j < ρ.length)) then (match callN (ρ.length :: Ts) m f (a.1 ++ [.o ρ.length]) (ρ ++ [.own .free a.2, .no]) with
  | some (.ok t ρ2) => some (.ok t (ρ2.take ρ.length))
  | _ => none) else none
noncomputable def nCallX (Ts : List Nat) (m : Nat) (f : Fn) (fs : M (List Rv × Tr)) : M Tr := bnd fs (callX Ts m f)
section
variable {K : Fg} {F H F1 H1 F' H' : Hp} {σ : Sg} {ρ ρ1 ρ2 : Rho} {fp fp1 fp' : FP} {T Ts : List Nat} {v : V} {t : Tr} {A : List Addr}
theorem x_rho : (ρ1 ++ [Sl.no, Sl.no]).set ρ1.length (.own .free t) = ρ1 ++ [.own .free t, .no] := by simp
theorem x_args (hl : σ.length = ρ1.length) : ∀ {us : List V} {rs : List Rv}, RvsOk K F1 σ ρ1 us rs → RvsOk K F1 ((σ ++ [none, none]).set ρ1.length (some v)) (ρ1 ++ [.own .free t, .no]) (us ++ [v]) (rs ++ [.o ρ1.length])
  | _, [], .nil => .cons ⟨sg_set (by simp [hl]), .free, t, by simp⟩ .nil
  | _, r :: rs, .cons h q => by
    refine .cons ?_ (x_args hl q)
    cases r with
    | d d => exact h
    | o l =>
      obtain ⟨h1, m', t', h2⟩ := h
      have hl' := (List.getElem?_eq_some_iff.mp h2).1
      exact ⟨by rw [sg_set_ne (by omega), ext_sg (by omega)]; exact h1, m', t', by rw [List.getElem?_append_left hl']; exact h2⟩
theorem x_owns {b : Addr} (h : Owns (fset fp1 ρ1.length A) b) : b ∈ A ∨ Owns fp1 b := h.fset
theorem x_step (E0 : EnvOk K F H σ ρ fp) (s1 : EStep K T F H σ ρ fp F1 H1 ρ1 fp1) (n1 : NewOk K H fp F1 H1 fp1 v t A) (hTs : ∀ j ∈ Ts, j < ρ1.length)
    (s : EStep K ([] ++ (ρ1.length :: Ts)) F1 H1 ((σ ++ [none, none]).set ρ1.length (some v)) (ρ1 ++ [.own .free t, .no]) (fset fp1 ρ1.length A) F' H' ρ2 fp') :
    EStep K (T ++ Ts) F H σ ρ fp F' H' (ρ2.take ρ1.length) (fset fp' ρ1.length []) := by
  have E1 := s1.env
  have hσ := E1.len
  have hl2 : ρ2.length = ρ1.length + 2 := by
    have a := s.env.len
    simp at a
    omega
  have hl0 : ρ.length = ρ1.length := by rw [← E0.len, hσ]
  have g3 : ∀ j, j < ρ1.length → (ρ1 ++ [Sl.own .free t, .no])[j]? = ρ1[j]? := fun j hj => List.getElem?_append_left hj
  have sg3 : ∀ j, j < ρ1.length → sg ((σ ++ [none, none]).set ρ1.length (some v)) j = sg σ j := fun j hj => by
    rw [sg_set_ne (by omega), ext_sg (by omega)]
  have f3 : ∀ j, j ≠ ρ1.length → fset fp1 ρ1.length A j = fp1 j := fun j hj => by unfold fset; rw [if_neg hj]
  have f4 : ∀ j, j ≠ ρ1.length → fset fp' ρ1.length [] j = fp' j := fun j hj => by unfold fset; rw [if_neg hj]
  have f5 : fset fp' ρ1.length [] ρ1.length = [] := by unfold fset; rw [if_pos rfl]
  have ow4 : ∀ b, Owns (fset fp' ρ1.length []) b → Owns fp' b := fun b h => by
    rcases h.fset with z | z
    · cases z
    · exact z
  have back : ∀ b, (H1 b = none ∨ Owns (fset fp1 ρ1.length A) b) → H b = none ∨ Owns fp b := fun b h => by
    rcases h with h | h
    · exact .inl (s1.st.dom b h)
    · rcases x_owns h with z | z
      · exact n1.new b z
      · exact (s1.st.own b z).symm
  have nown : ∀ (b : Addr) o, H b = some o → ¬ Owns fp b → ¬ Owns (fset fp1 ρ1.length A) b := fun b o h hn z => by
    rcases back b (.inr z) with w | w
    · rw [h] at w; cases w
    · exact hn w
  have hno : ρ2[ρ1.length + 1]? = some .no := by
    have := (s.un (ρ1.length + 1) fun z => by
      rcases List.mem_cons.mp z with z | z
      · omega
      · have := hTs _ z; omega).1
    rw [this]
    simp
  have env : EnvOk K F' H' σ (ρ2.take ρ1.length) (fset fp' ρ1.length []) := by
    refine ⟨s.env.sub, by rw [List.length_take, hl2]; omega, fun j sl h => ?_, fun j h => ?_, fun j => ?_, fun i j b h1 h2 => ?_, s.env.tb, fun j i p t' h1 h2 => ?_⟩
    · obtain ⟨a1, a2⟩ := take_get h
      have := s.env.sl j sl a2
      rw [sg3 j a1] at this
      rw [f4 j (by omega)]
      exact this
    · by_cases hj : j = ρ1.length
      · subst hj; exact f5
      · rw [f4 j hj]
        by_cases hj2 : j < ρ1.length
        · exact s.env.nil j fun m t' z => h m t' ((take_lt hj2).trans z)
        · refine s.env.nil j fun m t' z => ?_
          have hj3 := (List.getElem?_eq_some_iff.mp z).1
          have : j = ρ1.length + 1 := by omega
          subst this
          rw [hno] at z; cases z
    · by_cases hj : j = ρ1.length
      · subst hj; rw [f5]; exact List.nodup_nil
      · rw [f4 j hj]; exact s.env.nd j
    · by_cases hi : i = ρ1.length
      · subst hi; rw [f5] at h1; cases h1
      · by_cases hj : j = ρ1.length
        · subst hj; rw [f5] at h2; cases h2
        · rw [f4 i hi] at h1; rw [f4 j hj] at h2
          exact s.env.ap i j b h1 h2
    · obtain ⟨a1, a2⟩ := take_get h1
      obtain ⟨b1, b2⟩ := take_get h2
      have := s.env.al j i p t' a2 b2
      rw [sg3 j a1, sg3 i b1] at this
      exact this
  refine ⟨⟨env, s1.st.fr.trans s.st.fr, fun b h h' => ?_, fun b h => s1.st.dom b (s.st.dom b h), fun b o h hn nt => s.st.frame b o (s1.st.frame b o h hn nt) (nown b o h hn) nt, fun b h => ?_, fun i m t' h hm => ?_, fun i t' h => ?_⟩, fun i m t' h => ?_, fun i hi => ?_⟩
  · by_cases h1 : F1 b = none
    · rcases s.st.nf b h1 h' with z | z | z
      · exact (back b (.inl z)).imp_right .inl
      · exact (back b (.inr z)).imp_right .inl
      · exact s1.st.kt z
    · exact s1.st.nf b h h1
  · rcases s.st.own b (ow4 b h) with z | z
    · exact (back b (.inr z)).symm
    · exact .inr (s1.st.dom b z)
  · have hi := (List.getElem?_eq_some_iff.mp h).1
    obtain ⟨_, m1, t1, h1, k1⟩ := s1.st.pin i m t' h hm
    obtain ⟨_, m2, t2, h2, k2⟩ := s.st.pin i m1 t1 (by rw [g3 i (by omega)]; exact h1) k1
    exact ⟨rfl, m2, t2, (take_lt (by omega)).trans h2, k2⟩
  · have hi := (List.getElem?_eq_some_iff.mp h).1
    obtain ⟨_, h1, e1, d1⟩ := s1.st.lock i t' h
    obtain ⟨_, h2, e2, d2⟩ := s.st.lock i t' (by rw [g3 i (by omega)]; exact h1)
    rw [f3 i (by omega)] at e2 d2
    exact ⟨rfl, (take_lt (by omega)).trans h2, (f4 i (by omega)).trans (e2.trans e1), fun b hb => (d2 b (by rw [e1]; exact hb)).trans (d1 b hb)⟩
  · have hi := (List.getElem?_eq_some_iff.mp h).1
    obtain ⟨t1, h1⟩ := s1.ko i m t' h
    obtain ⟨t2, h2⟩ := s.ko i m t1 (by rw [g3 i (by omega)]; exact h1)
    exact ⟨t2, (take_lt (by omega)).trans h2⟩
  · obtain ⟨a1, a2, a3⟩ := s1.un i fun z => hi (List.mem_append_left _ z)
    by_cases hl : i < ρ1.length
    · obtain ⟨b1, b2, b3⟩ := s.un i fun z => by
        rcases List.mem_cons.mp z with z | z
        · omega
        · exact hi (List.mem_append_right _ z)
      rw [f3 i (by omega)] at b2 b3
      exact ⟨(take_lt hl).trans (b1.trans ((g3 i hl).trans a1)), (f4 i (by omega)).trans (b2.trans a2), fun b hb => (b3 b (by rw [a2]; exact hb)).trans (a3 b hb)⟩
    · have z1 : ρ[i]? = none := List.getElem?_eq_none (by omega)
      have z2 : (ρ2.take ρ1.length)[i]? = none := List.getElem?_eq_none (by rw [List.length_take]; omega)
      have e1 : fp i = [] := E0.nil i fun m t' z => by rw [z1] at z; cases z
      have e2 : fset fp' ρ1.length [] i = [] := env.nil i fun m t' z => by rw [z2] at z; cases z
      exact ⟨z2.trans z1.symm, e2.trans e1.symm, fun b hb => by rw [e1] at hb; cases hb⟩
end
section
variable {X : Cx} {T : List Nat} {W : WV} {k m : Nat} {f : Addr} {fd : FuncData} {ps : List Str} {F : Fn} {x : Str} {p pos : Pos} {e : Expr} {es : List Expr} {fs : M (List Rv × Tr)} {Ts : List Nat}
theorem vn_callX (G : FnOk X.prog X.w X.K X.mg X.base CX0 k f fd ps (spV X.K Wx0 m F)) (hr : Room k X.A) (hg : Gl X x) (hm : X.mg x = some (.ref f)) (hk : PySem.W.keepIn X.K (.ref f) = true) (hb : Binds X.K fd ps [])
    (ha : VAx X T W (e :: es) fs) (hdb : (x == ("__debug__" : Str)) = false := by decide) (he : starEach (e :: es) X.env = (false, eval e X.env) :: starEach es X.env := by rfl) (hpl : (backTo pos (starEach es X.env)).any (·.1) = false := by rfl) :
    VN X (T ++ Ts) W (.Call (.Name x p) (e :: es) [] pos) (nCallX Ts m F fs) :=
  pe_imp (pe_call G hr hg hm hk hb .nil pass0 ha hdb he hpl) fun σ H Q ⟨F0, ρ, fp, o, E, q, P⟩ => by
    unfold nCallX bnd at q
    cases hf : fs ρ with
    | none => rw [hf] at q; cases q
    | some r =>
      rw [hf] at q
      cases r with
      | ex c ρ1 => cases q; exact ⟨F0, ρ, fp, _, E, hf, fun H1 F1 fp1 st => P H1 F1 fp1 (st.sub fun i hi => List.mem_append_left _ hi)⟩
      | ok a ρ1 =>
        refine ⟨F0, ρ, fp, _, E, hf, fun vs H1 F1 fp1 s1 ⟨us, v, A, hv, r1, n1⟩ => ?_⟩
        subst hv
        rw [List.append_nil]
        simp only at q
        unfold callX at q
        split at q
        · rename_i hT
          have hTs : ∀ j ∈ Ts, j < ρ1.length := fun j hj => of_decide_eq_true (List.all_eq_true.mp hT j hj)
          split at q
          · rename_i t ρ2 hc
            cases ok_inj q
            have E1 := s1.env
            have hσ := E1.len
            have E3 := set_env (ext_env E1) (i := ρ1.length) (v := v) (s := .own .free a.2) (A := A) (by simp) ⟨v, rfl, n1.ok⟩ n1.nd n1.out (fun z => nomatch z)
            rw [x_rho] at E3
            refine callN_sp (T := []) (W := W) E3 (x_args hσ r1) hc fun y H' F' fp' s ⟨A', n'⟩ => ?_
            refine P y H' F' _ (x_step E s1 n1 hTs s) ⟨A', n'.ok, n'.nd, fun b hb => ?_, fun b hb z => n'.out b hb ?_⟩
            · rcases n'.new b hb with z | z
              · exact .inl (s1.st.dom b z)
              · rcases x_owns z with w | w
                · exact n1.new b w
                · exact (s1.st.own b w).symm
            · rcases z.fset with w | w
              · cases w
              · exact w
          · cases q
        · cases q
end
end VL
namespace VL
open PySem PySem.Spec PyProof.Rows L2
theorem vss_noneM {X : Cx} {W : WV} {st : List Stmt} : VSs X W st (fun _ => none) := ⟨fun pins s σ H D I ⟨F, ρ, fp, o, E, e, P⟩ => by cases e⟩
end VL

end

section
set_option Elab.async false
set_option linter.all false
set_option maxRecDepth 100000
set_option maxHeartbeats 1000000
namespace VL
open PySem PySem.Spec PyProof.Rows L2
section
variable {prog : Program} {w : World} {A : Around} {E : Value → Shared → Prop} {s : Shared}
end
section
variable {X : Cx}
end
section
variable {X : Cx} {T : List Nat} {W : WV} {fs : M (List Rv)} {e : Expr} {es : List Expr} {p p2 pos pos2 : Pos}
end
end VL

end

section
set_option Elab.async false
set_option linter.all false
set_option maxRecDepth 100000
set_option maxHeartbeats 1000000
namespace VL
open PySem PySem.Spec PyProof.Rows L2
mutual
theorem nk_hash (w w' : World) : ∀ k : NestedKey, nkI k = true → NestedKey.hash w k = NestedKey.hash w' k
  | .num _, _ => rfl
  | .tup ks, h => by
    have h' : nkIs ks = true := by simpa [nkI] using h
    show reduceHash (Builtin.Tuple.tupleHashOf (NestedKey.hashes w ks)) = reduceHash (Builtin.Tuple.tupleHashOf (NestedKey.hashes w' ks))
    rw [nk_hashes w w' ks h']
  | .none, h => by simp [nkI] at h
  | .text _, h => by simp [nkI] at h
theorem nk_hashes (w w' : World) : ∀ ks : List NestedKey, nkIs ks = true → NestedKey.hashes w ks = NestedKey.hashes w' ks
  | [], _ => rfl
  | k :: ks, h => by
    have h' : nkI k = true ∧ nkIs ks = true := by simpa [nkIs] using h
    show NestedKey.hash w k :: NestedKey.hashes w ks = NestedKey.hash w' k :: NestedKey.hashes w' ks
    rw [nk_hash w w' k h'.1, nk_hashes w w' ks h'.2]
end
theorem nkOk_i {k : NestedKey} (h : nkOk k = true) : nkI k = true ∧ k.depth ≤ 8 := by
  unfold nkOk at h
  simp only [Bool.and_eq_true] at h
  exact ⟨h.1.2, of_decide_eq_true h.2⟩
section
variable {X : Cx} {pins : List (Addr × Obj)} {σ : L2.St} {H : Hp} {s : Shared}
mutual
theorem nest_is (I : Inv X pins σ H s) : ∀ (k : NestedKey) (v : V) (u : Value), nkI k = true → Dq X.K H v k.data → L2.RelV v u → NestedIs s.heap k u
  | .num i, _, u, _, h, r => by
    have h' : Dq X.K H _ (.int i) := h
    cases h'
    obtain ⟨t, rfl⟩ := r
    exact .int i t
  | .tup ks, _, u, c, h, r => by
    have c' : nkIs ks = true := by simpa [nkI] using c
    have h' : Dq X.K H _ (.tuple (NestedKey.datas ks)) := h
    cases h' with
    | @tups a xs ds ht ha =>
      cases r
      obtain ⟨its, rv, ⟨o, ho, hc, n, hd⟩, _⟩ := I.tuple ht.sq
      exact .tup ho hc hd (by simpa using nest_all I ks xs its c' ha rv)
  | .none, _, _, h, _, _ => by simp [nkI] at h
  | .text _, _, _, h, _, _ => by simp [nkI] at h
theorem nest_all (I : Inv X pins σ H s) : ∀ (ks : List NestedKey) (vs : List V) (us : List Value), nkIs ks = true → DqAll X.K H vs (NestedKey.datas ks) → Vals vs us → NestedAll s.heap ks us
  | [], _, _, _, h, r => by
    have h' : DqAll X.K H _ [] := h
    cases h'
    cases r
    exact .nil
  | k :: ks, _, _, c, h, r => by
    have c' : nkI k = true ∧ nkIs ks = true := by simpa [nkIs] using c
    have h' : DqAll X.K H _ (NestedKey.data k :: NestedKey.datas ks) := h
    cases h' with
    | cons h1 h2 =>
      cases r with
      | cons r1 r2 => exact .cons (nest_is I k _ _ c'.1 h1 r1) (nest_all I ks _ _ c'.2 h2 r2)
end
end
noncomputable abbrev NEs := List (NestedKey × Addr × V)
noncomputable abbrev NRel : (NestedKey × Addr × V) → (NestedKey × Addr × Value) → Prop := fun p q => p.1 = q.1 ∧ p.2.1 = q.2.1 ∧ L2.RelV p.2.2 q.2.2
theorem paired_mem {α β : Type} {G : α → β → Prop} : ∀ {l : List α} {m : List β}, Paired G l m → ∀ y ∈ m, ∃ x ∈ l, G x y
  | _, _, .nil, _, h => nomatch h
  | _, _, .cons r t, y, h => by
    rcases List.mem_cons.mp h with e | h
    · subst e; exact ⟨_, List.mem_cons_self, r⟩
    · obtain ⟨x, hx, g⟩ := paired_mem t y h
      exact ⟨x, List.mem_cons_of_mem _ hx, g⟩
noncomputable def valN (es : NEs) (k : NestedKey) : Option V := (es.find? fun e => decide (e.1 = k)).map (·.2.2)
noncomputable def putN (es : NEs) (k : NestedKey) (b : Addr) (v : V) : NEs := if (valN es k).isSome then es.map (fun e => if e.1 = k then (e.1, e.2.1, v) else e) else es ++ [(k, b, v)]
theorem n_val {es : NEs} {xs : List (NestedKey × Addr × Value)} (r : Paired NRel es xs) (k : NestedKey) : RelO (valN es k) ((atKey xs k).map (·.2)) := by
  induction r with
  | nil => exact True.intro
  | @cons p q ps qs h t ih =>
    obtain ⟨h1, h2, h3⟩ := h
    by_cases e : p.1 = k
    · have e' : q.1 = k := h1.symm.trans e
      have a : valN (p :: ps) k = some p.2.2 := by simp [valN, List.find?_cons, e]
      have b : (atKey (q :: qs) k).map (·.2) = some q.2.2 := by simp [atKey, List.find?_cons, e']
      rw [a, b]; exact h3
    · have e' : ¬ q.1 = k := fun z => e (h1.trans z)
      have a : valN (p :: ps) k = valN ps k := by simp [valN, List.find?_cons, e]
      have b : (atKey (q :: qs) k).map (·.2) = (atKey qs k).map (·.2) := by simp [atKey, List.find?_cons, e']
      rw [a, b]; exact ih
theorem n_repl {es : NEs} {xs : List (NestedKey × Addr × Value)} (r : Paired NRel es xs) (k : NestedKey) {v : V} {u : Value} (rv : L2.RelV v u) :
    Paired NRel (es.map fun e => if e.1 = k then (e.1, e.2.1, v) else e) (xs.map (PySem.putAt k u)) := by
  induction r with
  | nil => exact .nil
  | @cons p q ps qs h t ih =>
    obtain ⟨h1, h2, h3⟩ := h
    rw [List.map_cons, List.map_cons]
    refine .cons ?_ ih
    unfold PySem.putAt
    by_cases e : p.1 = k
    · rw [if_pos e, if_pos (h1.symm.trans e)]; exact ⟨h1, h2, rv⟩
    · rw [if_neg e, if_neg (fun z => e (h1.trans z))]; exact ⟨h1, h2, h3⟩
theorem n_put {es : NEs} {xs : List (NestedKey × Addr × Value)} (r : Paired NRel es xs) (k : NestedKey) (b : Addr) {v : V} {u : Value} (rv : L2.RelV v u) : Paired NRel (putN es k b v) (storedH xs k b u) := by
  have e : (valN es k).isSome = (atKey xs k).isSome := by rw [(n_val r k).isSome_eq, Option.isSome_map]
  unfold putN storedH
  rw [e]
  by_cases q : (atKey xs k).isSome = true
  · rw [if_pos q, if_pos q]; exact n_repl r k rv
  · rw [if_neg q, if_neg q]; exact Paired.snoc r ⟨rfl, rfl, rv⟩
theorem n_put_len (es : NEs) (k : NestedKey) (b : Addr) (v : V) : (putN es k b v).length ≤ es.length + 1 := by
  unfold putN
  split
  · rw [List.length_map]; omega
  · simp
noncomputable def KeysN (K : Fg) (H : Hp) (es : NEs) : Prop := ∀ x ∈ es, nkOk x.1 = true ∧ Dq K H (.ref x.2.1) x.1.data
theorem putN_keys {K : Fg} {H : Hp} {es : NEs} {k : NestedKey} {b : Addr} {v : V} (h : KeysN K H es) (hk : nkOk k = true) (hb : Dq K H (.ref b) k.data) : KeysN K H (putN es k b v) := by
  unfold putN
  split
  · intro x hx
    obtain ⟨e, he, rfl⟩ := List.mem_map.mp hx
    have q := h e he
    split
    · exact q
    · exact q
  · intro x hx
    rcases List.mem_append.mp hx with z | z
    · exact h x z
    · rw [List.mem_singleton.mp z]; exact ⟨hk, hb⟩
section
variable {X : Cx} {pins : List (Addr × Obj)} {σ : L2.St} {H : Hp} {s : Shared} {a b : Addr} {es : NEs} {k : NestedKey} {v : V} {u r : Value} {A : Around} {E : Value → Shared → Prop}
noncomputable def NAt (H : Hp) (a : Addr) (es : NEs) : Prop := H a = some (DnO a es) ∨ ∃ o, H a = some (.frz o (DnO a es))
theorem dn_at (I : Inv X pins σ H s) (h : NAt H a es) (hk : KeysN X.K H es) : es.length ≤ sizeLine ∧ (a == sysModules) = false ∧ ∃ xs, Paired NRel es xs ∧ s.heap.DictOfH (nestedKind X.prog X.w) a xs := by
  have q : es.length ≤ sizeLine ∧ (a == sysModules) = false ∧ ∃ (w : World) (xs : List (NestedKey × Addr × Value)), Paired NRel es xs ∧ ∃ (o : Obj) (rs : Array DictEntry) (ep : Nat), s.heap.get? a = some o ∧ o.ExactDict ∧ o.data = .dict rs ep ∧
      rs.toList = xs.map (fun x => (⟨NestedKey.hash w x.1, .ref x.2.1, x.2.2⟩ : DictEntry)) ∧ (xs.map (·.1)).Nodup := by
    rcases h with h | ⟨o, h⟩
    · exact (I.hok a _ h).1
    · exact (I.hok a _ h).2.1
  obtain ⟨z, y, w, xs, r, o, rs, ep, h1, h2, h3, h4, h5⟩ := q
  refine ⟨z, y, xs, r, o, rs, ep, h1, h2, h3, ?_, fun x hx => ?_, h5⟩
  · rw [h4]
    refine List.map_congr_left fun x hx => ?_
    obtain ⟨e, he, g1, g2, g3⟩ := paired_mem r x hx
    have ki := (nkOk_i (hk e he).1).1
    rw [g1] at ki
    show (⟨NestedKey.hash w x.1, .ref x.2.1, x.2.2⟩ : DictEntry) = ⟨NestedKey.hash X.w x.1, .ref x.2.1, x.2.2⟩
    rw [nk_hash w X.w x.1 ki]
  · obtain ⟨e, he, g1, g2, g3⟩ := paired_mem r x hx
    obtain ⟨c, d⟩ := hk e he
    obtain ⟨ki, kd⟩ := nkOk_i c
    rw [g1] at ki kd d
    rw [g2] at d
    exact ⟨nest_is I x.1 _ _ ki d rfl, kd⟩
theorem nkey_of (I : Inv X pins σ H s) (hk : nkOk k = true) (hb : Dq X.K H (.ref b) k.data) : (nestedKind X.prog X.w).is s.heap k b := by
  obtain ⟨ki, kd⟩ := nkOk_i hk
  exact ⟨nest_is I k _ _ ki hb rfl, kd⟩
theorem nroom (hu : A.units + 65 < cLine) : (nestedKind X.prog X.w).room A.in1 := by
  show A.in1.units + 8 < cLine
  rw [Around.in1_units]
  omega
theorem n_getItem {Q : Value → Shared → Prop} (hu : A.units + 65 < cLine) (I : Inv X pins σ H s) (h : NAt H a es) (hk : KeysN X.K H es) (kk : nkOk k = true) (kb : Dq X.K H (.ref b) k.data) (l : valN es k = some v)
    (hq : ∀ w' s', Inv X pins σ H s' → L2.RelV v w' → Q w' s') : wpAny (model X.prog X.w) A (getItem (.ref a) (.ref b)) Q E s := by
  obtain ⟨z, hd, xs, rel, dd⟩ := dn_at I h hk
  obtain ⟨w', hw, rw'⟩ := RelO.some_of (v := v) (o := (atKey xs k).map (·.2)) (by rw [← l]; exact n_val rel k)
  obtain ⟨p, hp, hp2⟩ := Option.map_eq_some_iff.mp hw
  refine wpAny_getItem_heap (nroom hu) (nkey_of I kk kb) dd hp ?_
  rw [hp2]
  exact hq w' _ (I.tok _) rw'
theorem n_notIn {Q : Value → Shared → Prop} (hu : A.units + 65 < cLine) (I : Inv X pins σ H s) (h : NAt H a es) (hk : KeysN X.K H es) (kk : nkOk k = true) (kb : Dq X.K H (.ref b) k.data)
    (hq : ∀ s', Inv X pins σ H s' → Q (.bool (!(valN es k).isSome)) s') : wpAny (model X.prog X.w) A (compareOp .NotIn (.ref b) (.ref a)) Q E s := by
  obtain ⟨z, hd, xs, rel, dd⟩ := dn_at I h hk
  refine wpAny_notIn_heap (nroom hu) (nkey_of I kk kb) hd dd ?_
  have q := (n_val rel k).isSome_eq
  rw [Option.isSome_map] at q
  rw [← q]
  exact hq _ (I.tok _)
theorem n_get2 {d : V} {Q : Value → Shared → Prop} (hu : A.units + 65 < cLine) (I : Inv X pins σ H s) (h : NAt H a es) (hk : KeysN X.K H es) (kk : nkOk k = true) (kb : Dq X.K H (.ref b) k.data) (rd : L2.RelV d r)
    (hq : ∀ w' s', Inv X pins σ H s' → L2.RelV ((valN es k).getD d) w' → Q w' s') : wpAny (model X.prog X.w) A (call (.builtin "dict.get") [.ref a, .ref b, r]) Q E s := by
  obtain ⟨z, hd, xs, rel, dd⟩ := dn_at I h hk
  exact call_meetsIn PySem.F.slot_dict_get dd.typeIs PySem.F.entry_dict_get (PySem.F.args_dict_get_3 _ _ _) (meetsH_dict_get_default (nestedKind X.prog X.w) a b hd r) ⟨nroom hu, k, xs, nkey_of I kk kb, dd, hq _ _ (I.tok _) ((n_val rel k).getD rd)⟩
theorem n_setItem {Q : Unit → Shared → Prop} (hu : A.units + 65 < cLine) (I : Inv X pins σ H s) (h : H a = some (DnO a es)) (hk : KeysN X.K H es) (kk : nkOk k = true) (kb : Dq X.K H (.ref b) k.data) (hl : es.length < sizeLine) (rv : L2.RelV v r)
    (hq : ∀ s', Inv X pins σ (upd H a (DnO a (putN es k b v))) s' → Q () s') : wpAny (model X.prog X.w) A (setItem (.ref a) (.ref b) r) Q E s := by
  obtain ⟨z, hd, xs, rel, dd⟩ := dn_at I (.inl h) hk
  have hz : xs.length ≤ sizeLine := by rw [← Paired.length rel]; exact z
  have hl2 : (putN es k b v).length ≤ sizeLine := by have := n_put_len es k b v; omega
  refine wpAny_setItem_heap (hsz := hz) (nroom hu) (nkey_of I kk kb) dd fun h' dd' hs => hq _ ?_
  obtain ⟨q, rs, ep, hq2, h2, h3, h4, _, h5⟩ := dd'
  refine d_write I (by rw [h]; exact True.intro) hs ⟨q, hq2⟩ ?_
  refine ⟨⟨hl2, hd, X.w, _, n_put rel k b rv, q, rs, ep, hq2, h2, h3, h4, h5⟩, ⟨q, hq2⟩, fun g1 g2 x st => ?_⟩
  obtain ⟨y1, y2, w, ys, y3, o, rs, ep, y4, y5⟩ := x
  exact ⟨y1, y2, w, ys, y3, o, rs, ep, st _ y4, y5⟩
theorem dn_new {P : Program} {w : World} {H : Hp} (h : Heap) (hb : sysModules < h.objs.size) : ObjOk P w H (h.push { cls := .type "dict", data := .dict #[] }) h.objs.size (DnO h.objs.size []) := by
  refine ⟨⟨Nat.zero_le _, beq_eq_false_iff_ne.mpr (Ne.symm (Nat.ne_of_lt hb)), w, [], .nil, _, #[], 0, Heap.get?_push_size _ rfl, ⟨rfl, rfl, rfl⟩, rfl, rfl, List.nodup_nil⟩, ⟨_, Heap.get?_push_size _ rfl⟩, fun g1 g2 x st => ?_⟩
  obtain ⟨y1, y2, w, ys, y3, o, rs, ep, y4, y5⟩ := x
  exact ⟨y1, y2, w, ys, y3, o, rs, ep, st _ y4, y5⟩
theorem dn_frz {o : Obj} (I : Inv X pins σ H s) (h : H a = some (.frz o (DnO a es))) :
    (a == sysModules) = false ∧ s.heap.get? a = some o ∧ o.ExactDict ∧ ∃ (rs : Array DictEntry) (ep : Nat), o.data = .dict rs ep ∧ rs.size = es.length ∧
      ∀ (i : Nat) e, es[i]? = some e → ∃ en : DictEntry, rs[i]? = some en ∧ en.key = .ref e.2.1 := by
  obtain ⟨hd, ⟨z, hs, w, xs, pr, o', rs, ep, ho, hx, hdt, he, _⟩, _⟩ := I.hok a _ h
  rw [hd] at ho
  cases ho
  refine ⟨hs, hd, hx, rs, ep, hdt, ?_, fun i e q => ?_⟩
  · have l2 : es.length = xs.length := Paired.length pr
    have l1 := congrArg List.length he
    rw [Array.length_toList, List.length_map] at l1
    omega
  · obtain ⟨x, hx, e1, e2, _⟩ := paired_get pr q
    refine ⟨⟨NestedKey.hash w x.1, .ref x.2.1, x.2.2⟩, ?_, ?_⟩
    · rw [← Array.getElem?_toList, he, List.getElem?_map, hx]; rfl
    · show Value.ref x.2.1 = .ref e.2.1
      rw [e2]
end
noncomputable def Itn (d : Addr) (o : Obj) (es : NEs) : It :=
  ⟨fun i H => H d = some (.frz o (DnO d es)) ∧ i < es.length, fun i H x H' => H' = H ∧ ∃ e, es[i]? = some e ∧ x = .ref e.2.1, fun i H => H d = some (.frz o (DnO d es)) ∧ es.length ≤ i⟩
section
variable {P : Program} {w : World} {K : PySem.W.Frag} {tg : Expr} {d : Addr} {o : Obj} {rs : Array DictEntry} {ep : Nat}
theorem turn_keysN {es : NEs} (it : Addr) (hod : o.data = .dict rs ep) : Turn P w K tg (Itn d o es) [it] it (fun i h => h.IsKeyIter it d i es.length ep) where
  mem := by simp
  obj := fun i h st b hb => by
    have e : b = it := by simpa using hb
    subst e
    obtain ⟨oi, e, c, dd⟩ := st
    exact ⟨oi, e, fun v z => by rw [dd] at z; cases z⟩
  keep := fun i h h' st k => st.at fun oi e => k it (by simp) oi e
  item := by
    intro X hP hw hK hc i pins s σ H E I hf st hg
    subst hP hw hK
    obtain ⟨hd, hi⟩ := hg
    obtain ⟨f0, f1, f2, f3, f4, f5⟩ := hf it (by simp)
    obtain ⟨hs, hgd, hx, es', ep', hdt, hsz, ent⟩ := dn_frz I hd
    obtain ⟨rfl, rfl⟩ := dict_ep hod hdt
    obtain ⟨e, he⟩ : ∃ p, es[i]? = some p := ⟨es[i], List.getElem?_eq_getElem hi⟩
    obtain ⟨en, hen, hkey⟩ := ent i e he
    refine next_key_item st hgd hdt hsz hen fun h' st' sb => ?_
    have I1 : Inv X pins σ H { s with heap := h' } := I.turned (t' := s.toks) (fun b ob hb e => (sb.2 b hb).trans e) f0 f1 f3 f4 f5
    obtain ⟨oi, q, c, dd⟩ := id st'
    exact ⟨en.key, rfl, go_of (s := { s with heap := h' }) q c dd (by decide) ⟨.ref e.2.1, H, I1, hkey, ⟨rfl, e, he, rfl⟩, st', fun b hb => (hf b hb).1⟩⟩
  done := by
    intro X hP hw hK hc i pins s σ H E I hf st hg
    subst hP hw hK
    obtain ⟨hd, hi⟩ := hg
    obtain ⟨f0, f1, f2, f3, f4, f5⟩ := hf it (by simp)
    obtain ⟨hs, hgd, hx, es', ep', hdt, hsz, ent⟩ := dn_frz I hd
    obtain ⟨rfl, rfl⟩ := dict_ep hod hdt
    exact next_key_end (I.ok.hd hc) st hgd hdt hsz hi fun h' eb => ⟨rfl, I.turned (t' := s.toks) (fun b ob hb e => eb b ob hb e) f0 f1 f3 f4 f5⟩
  self := fun A i s Q E st h => by
    refine wpAny_pyIter_slot st.typeIs F.slot_dict_keyiterator_iter (wpAny_call_entry F.slot_dict_keyiterator_iter st.typeIs F.entry_dict_keyiterator_iter ?_ (F.args_dict_keyiterator_iter_1 _))
    show wpAny _ _ (PySem.ret (.ref it)) _ _ s
    exact wpAny_pure ⟨_, rfl, "dict_keyiterator", _, st.typeIs, F.slot_dict_keyiterator_next.lookup, h⟩
end
noncomputable def iKeysN (td : TE) : TI := fun σ H R => td σ H fun x H1 => ∃ d o es, x = .ref d ∧ H1 d = some (.frz o (DnO d es)) ∧ R (Itn d o es) H1
theorem pi_keysN {X : Cx} {tg e : Expr} {td : TE} (he : PE X e td) : PI X tg e (iKeysN td) := by
  refine ⟨fun pins s σ H R I h => ?_⟩
  refine thn (he.run pins s σ H _ I h) fun u s1 ⟨x, H1, I1, rx, d, o, es, ex, hd, q⟩ => ?_
  subst ex
  obtain rfl : u = Value.ref d := rx
  obtain ⟨hs, hgd, hx, rs, ep, hdt, hsz, ent⟩ := dn_frz I1 hd
  refine iter_keys hs hgd hx hdt (pi_one (tk := s1.toks) I1 _ (turn_keysN _ hdt) ⟨_, Heap.get?_push_size _ rfl, rfl, ?_⟩ q)
  rw [hsz] <;> rfl
theorem walk_keysN {d : Addr} {o : Obj} {es : NEs} : Walk (Itn d o es) es.length (fun H => H d = some (.frz o (DnO d es))) (fun i H x H' => H' = H ∧ ∃ e, es[i]? = some e ∧ x = .ref e.2.1) :=
  ⟨fun _ _ hi q => ⟨q, hi⟩, fun _ q => ⟨q, Nat.le_refl _⟩, fun _ _ _ _ _ _ y => y⟩
noncomputable def tNGet (td ty : TE) (K : Fg) : TE := fun σ H Q => td σ H fun x H1 => ty σ H1 fun y H2 => ∃ a es b k v, x = .ref a ∧ NAt H2 a es ∧ KeysN K H2 es ∧ y = .ref b ∧ nkOk k = true ∧ Dq K H2 (.ref b) k.data ∧ valN es k = some v ∧ Q v H2
noncomputable def tNIn (neg : Bool) (ty td : TE) (K : Fg) : TE := fun σ H Q => ty σ H fun y H1 => td σ H1 fun x H2 => ∃ a es b k, x = .ref a ∧ NAt H2 a es ∧ KeysN K H2 es ∧ y = .ref b ∧ nkOk k = true ∧ Dq K H2 (.ref b) k.data ∧
  Q (.bl (if neg then !(valN es k).isSome else (valN es k).isSome)) H2
noncomputable def tNGet2 (td ty tx : TE) (K : Fg) : TE := fun σ H Q => td σ H fun x H1 => ∃ a es0, x = .ref a ∧ NAt H1 a es0 ∧ KeysN K H1 es0 ∧ ty σ H1 fun y H2 => tx σ H2 fun z H3 => ∃ es b k, NAt H3 a es ∧ KeysN K H3 es ∧ y = .ref b ∧ nkOk k = true ∧ Dq K H3 (.ref b) k.data ∧ Q ((valN es k).getD z) H3
noncomputable def tNPut (td ty tv : TE) (K : Fg) : TS := fun D σ H => tv σ H fun v H1 => td σ H1 fun x H2 => ty σ H2 fun y H3 => ∃ a es b k, x = .ref a ∧ H3 a = some (DnO a es) ∧ KeysN K H3 es ∧ y = .ref b ∧ nkOk k = true ∧ Dq K H3 (.ref b) k.data ∧ es.length < sizeLine ∧
  D.nx σ (upd H3 a (DnO a (putN es k b v)))
noncomputable def tNNew : TE := fun _ H Q => ∀ p, H p = none → Q (.ref p) (upd H p (DnO p []))
section
variable {X : Cx} {o i e f value : Expr} {pos pos' tpos apos cpos : Pos} {td ty tv tx : TE}
theorem n_type {pins : List (Addr × Obj)} {σ : L2.St} {H : Hp} {s : Shared} {a : Addr} {es : NEs} (I : Inv X pins σ H s) (h : NAt H a es) (hk : KeysN X.K H es) : s.TypeIs (.ref a) "dict" := by
  obtain ⟨_, _, xs, _, dd⟩ := dn_at I h hk
  exact dd.typeIs
theorem pe_nget (hu : X.A.units + 65 < cLine) (ho : PE X o td) (hi : PE X i ty) (hs : NoSl i) : PE X (.Subscript o i pos) (tNGet td ty X.K) := by
  refine ⟨fun pins s σ H Q I h => ?_⟩
  refine subD_of PySem.F.slot_dict_getitem.lookup hs (thn (ho.run pins s σ H _ I h) fun u s1 ⟨x, H1, I1, rx, q1⟩ => thn (hi.run pins s1 σ H1 _ I1 q1) fun iv s2 ⟨y, H2, I2, ry, a, es, b, k, v, ex, h1, h2, ey, h3, h4, h5, q2⟩ => ?_)
  subst ex ey
  obtain rfl : u = Value.ref a := rx
  obtain rfl : iv = Value.ref b := ry
  exact ⟨n_type I2 h1 h2, n_getItem hu I2 h1 h2 h3 h4 h5 fun w' s3 I3 rw' => ⟨v, H2, I3, rw', q2⟩⟩
theorem pc_nnotin (hu : X.A.units + 65 < cLine) (hi : PE X i ty) (ho : PE X o td) : PC X .NotIn i o (tNIn true ty td X.K) := by
  refine ⟨fun pins s σ H Q I h => ?_⟩
  refine thn (hi.run pins s σ H _ I h) fun iv s1 ⟨y, H1, I1, ry, q1⟩ => thn (ho.run pins s1 σ H1 _ I1 q1) fun u s2 ⟨x, H2, I2, rx, a, es, b, k, ex, h1, h2, ey, h3, h4, q2⟩ => ?_
  subst ex ey
  obtain rfl : u = Value.ref a := rx
  obtain rfl : iv = Value.ref b := ry
  exact n_notIn hu I2 h1 h2 h3 h4 fun s3 I3 => ⟨.bl (!(valN es k).isSome), H2, I3, rfl, q2⟩
theorem ps_nput (hu : X.A.units + 65 < cLine) (ho : PE X o td) (hi : PE X i ty) (hv : PE X value tv) (hs : swapsWith value (some (.Subscript o i pos')) pos.line X.env = pure false) :
    PS X (.Assign [.Subscript o i pos'] value pos) (tNPut td ty tv X.K) := by
  refine ⟨fun pins s σ H D I h => ?_⟩
  refine wpAny_Assign_Subscript (thn (hv.run pins s σ H _ I h) fun r s1 ⟨v, H1, I1, rv, q1⟩ => thn (ho.run pins s1 σ H1 _ I1 q1) fun u s2 ⟨x, H2, I2, rx, q2⟩ => thn (hi.run pins s2 σ H2 _ I2 q2) fun iv s3 ⟨y, H3, I3, ry, a, es, b, k, ex, h1, h2, ey, h3, h4, h5, q3⟩ => ?_) hs
  subst ex ey
  obtain rfl : u = Value.ref a := rx
  obtain rfl : iv = Value.ref b := ry
  exact n_setItem hu I3 h1 h2 h3 h4 h5 rv fun s4 I4 => ⟨σ, _, I4, q3⟩
theorem pe_nget2 (hu : X.A.units + 65 < cLine) (ho : PE X o td) (he : PE X e ty) (hf : PE X f tx) (m : M2 X o "get" apos e f cpos) : PE X (.Call (.Attribute o "get" apos) [e, f] [] cpos) (tNGet2 td ty tx X.K) := by
  refine ⟨fun pins s σ H Q I h => ?_⟩
  refine wpAny_Call_method m.base m.few m.line PySem.F.plainAttrs_dict PySem.F.slot_dict_get PySem.F.type_dict_get (thn (ho.run pins s σ H _ I h) fun u s1 ⟨x, H1, I1, rx, a, es0, ex, g1, g2, q1⟩ => ?_)
  subst ex
  obtain rfl : u = Value.ref a := rx
  obtain ⟨_, _, xs, _, dd⟩ := dn_at I1 g1 g2
  refine ⟨dd.typeIs, fun c q => ?_, ?_⟩
  · cases q
    obtain ⟨ob, _, _, h1, h2, _⟩ := dd
    exact ⟨ob, h1, h2.2.1⟩
  rw [m.trees]
  refine Calls.callWith_builtin rfl (Calls.evalArgs_plain (Calls.spliced_cons (thn (he.run pins s1 σ H1 _ I1 q1) fun iv s2 ⟨y, H2, I2, ry, q2⟩ =>
    Calls.spliced_cons (thn (hf.run pins s2 σ H2 _ I2 q2) fun fv s3 ⟨z, H3, I3, rz, es, b, k, h1, h2, ey, h3, h4, q3⟩ => Calls.spliced_nil ?_))))
  subst ey
  obtain rfl : iv = Value.ref b := ry
  exact n_get2 hu I3 h1 h2 h3 h4 rz fun w' s4 I4 rw' => ⟨_, H3, I4, rw', q3⟩
theorem pe_nnew : PE X (.Dict [] [] pos) tNNew := ⟨fun pins s σ H Q I h =>
  wpAny_Dict_empty ⟨.ref s.heap.objs.size, _, I.laid (a := s.heap.objs.size) (o := DnO s.heap.objs.size []) (t' := s.toks) (fun _ _ q => Heap.get?_push_of_some _ q) (Nat.le_refl _) (dn_new s.heap I.big), rfl, h _ (I.hok.fresh (Nat.le_refl _))⟩⟩
end
section
variable {X : Cx} {pos : Pos}
noncomputable def tDisp1N (tk tv : TE) (K : Fg) : TE := fun σ H Q => ∀ p, H p = none → tPairs [(tk, tv)] σ (upd H p (DnO p [])) fun ps H2 => ∃ x y, ps = [(x, y)] ∧ H2 p = some (DnO p []) ∧ ∃ b k, x = .ref b ∧ nkOk k = true ∧ Dq K H2 (.ref b) k.data ∧ Q (.ref p) (upd H2 p (DnO p [(k, b, y)]))
theorem pe_disp1N {k v : Expr} {tk tv : TE} (hu : X.A.units + 65 < cLine) (hk : PE X k tk) (hv : PE X v tv)
    (hshape : (evalEachOpt [some k] X.env).zip ((evalEach [v] X.env).map fun v => do let x ← v; standAt pos; pure x) = (pairTrees [some k] [v] X.env pos).map fun p => (some p.1, p.2) := by rfl) (hne : pairTrees [some k] [v] X.env pos ≠ [] := by intro h; cases h) (h15 : (pairTrees [some k] [v] X.env pos).length ≤ 15 := by exact Nat.le_of_ble_eq_true rfl) :
    PE X (.Dict [some k] [v] pos) (tDisp1N tk tv X.K) := by
  refine ⟨fun pins s σ H Q I q => ?_⟩
  have hn := I.hok.fresh (Nat.le_refl s.heap.objs.size)
  have I1 := I.laid (a := s.heap.objs.size) (o := DnO s.heap.objs.size []) (h' := s.heap.push { cls := .type "dict", data := .dict #[] }) (t' := s.toks) (fun _ _ q => Heap.get?_push_of_some _ q) (Nat.le_refl _) (dn_new s.heap I.big)
  rw [arm_eval_Dict, hshape, dictDisplay_pairs _ hne (by omega)]
  refine wpAny_bind (wpAny_standAt (wpAny_bind (wpAny_subDictH (knd := nestedKind X.prog X.w) (show (nestedKind X.prog X.w).room X.A from by show X.A.units + 8 < cLine; omega) h15 ?_)))
  have ps := pps_cons (pos := pos) hk hv pps_nil
  refine thn (ps.run pins _ σ _ (fun ps H2 => ∃ x y, ps = [(x, y)] ∧ H2 s.heap.objs.size = some (DnO s.heap.objs.size []) ∧ ∃ b k, x = .ref b ∧ nkOk k = true ∧ Dq X.K H2 (.ref b) k.data ∧ Q (.ref s.heap.objs.size) (upd H2 s.heap.objs.size (DnO s.heap.objs.size [(k, b, y)]))) I1 ?_) fun ws s2 ⟨ps, H2, I2, rel, x, y, ep, e, b, k, ex, kk, kb, q2⟩ => ?_
  · exact q _ hn
  · subst ep ex
    cases rel with
    | @cons _ p1 _ _ r rr =>
      cases rr
      obtain ⟨u1, u2⟩ := p1
      obtain ⟨ru, rv⟩ := r
      cases (show u1 = Value.ref b from ru)
      obtain ⟨z, hd, xs, rel, dd⟩ := dn_at I2 (.inl e) (fun x hx => nomatch hx)
      cases rel
      refine ⟨[(k, b, u2)], ⟨rfl, rfl, nkey_of I2 kk kb, True.intro⟩, dd, fun h' tk dd' hs => wpAny_pure ⟨.ref s.heap.objs.size, _, ?_, rfl, q2⟩⟩
      obtain ⟨o, rs, ep, hq, h2, h3, h4, _, h5⟩ := dd'
      refine d_write I2 (by rw [e]; exact True.intro) hs ⟨o, hq⟩ ⟨⟨by show 1 ≤ sizeLine; rw [sizeLine_eq]; omega, hd, X.w, _, .cons ⟨rfl, rfl, rv⟩ .nil, o, rs, ep, hq, h2, h3, h4, h5⟩, ⟨o, hq⟩, fun g1 g2 x st => ?_⟩
      obtain ⟨y1, y2, w, ys, y3, o, rs, ep, y4, y5⟩ := x
      exact ⟨y1, y2, w, ys, y3, o, rs, ep, st _ y4, y5⟩
end
section
variable {prog : Program} {w : World} {A : Around} {E : Value → Shared → Prop} {s : Shared}
theorem call_min_twoH {a b : Value} {Q : Value → Shared → Prop}
    (h : wpAny (model prog w) A.in1 (pyIter (.ref s.heap.objs.size)) (fun it s₂ => ∃ I fp wr G n P St H bt, it = .ref I ∧ WalksS prog w A.in1 I fp wr G n P St ∧ St 0 s₂ ∧ (∀ b ∈ fp, b < s₂.heap.objs.size) ∧ 0 < n ∧
      (∀ b o, H.get? b = some o → b ∉ wr) ∧ (∀ b o, H.get? b = some o → s₂.heap.get? b = some o) ∧ CmpIn prog w A.in1 .Lt H P bt ∧ ∀ v s', P (argBest bt (n - 1)) v → Moved wr G s₂ s' → Q v s') E
      { s with heap := s.heap.push { cls := .type "tuple", data := .seq #[a, b] } }) :
    wpAny (model prog w) A (call (.builtin "min") [a, b]) Q E s := by
  have hname : (toString "min" ++ toString ".loop" : String) = "min.loop" := by decide
  refine call_function_tree F.kind_min F.plain_min F.entry_min (F.args_min2 _ _) ?_
  show wpAny _ A.in1 (Builtin.Builtins.bindParams "min" ["key", "default"] 0 ⟨[], []⟩ >>= _) _ _ s
  refine wpAny_bind (wpAny_of_eq (show Builtin.Builtins.bindParams "min" ["key", "default"] 0 ⟨[], []⟩ = pure [none, none] from rfl) ?_)
  show wpAny _ A.in1 (newTuple [a, b] >>= _) _ _ s
  refine wpAny_bind (wpAny_newObj_type ?_)
  refine wpAny_bind (wpAny_mono h (fun it s₂ h₂ => ?_) fun _ _ e => e)
  obtain ⟨I, fp, wr, G, n, P, St, H, bt, rfl, W, hst, hfp, hn, hw, hkeep, hcmp, hQ⟩ := h₂
  refine wpAny_bind (wpAny_newObj_type ?_)
  have hSf : s₂.heap.objs.size ∉ fp := fun hm => Nat.lt_irrefl _ (hfp _ hm)
  rw [hname]
  refine wpAny_pure ⟨plainId_quiet F.plain_min_loop _, codeAny_min_loop_firstH W H hw bt hcmp s₂.heap.objs.size hSf (fresh_in hkeep) _ hn (fun b o e => Heap.get?_push_of_some _ (hkeep b o e)) (W.frame 0 s₂ _ s₂.toks hst (Nat.le_refl _) fun b _ o e => Heap.get?_push_of_some _ e) (Heap.get?_push_size _ rfl) fun v s' hP hm => ?_⟩
  exact hQ v s' hP (Moved.drop_new (tk := s₂.toks) hm (Nat.le_refl _))
theorem min_two_data {u v : Value} {x y : PyData} {as : List Addr} {Q : Value → Shared → Prop} (hh : A.handled = none) (hr : ReadsAll s.heap [u, v] [x, y] as) (ha : PySem.W.AlikeAll [x, y]) (hu : A.units + 1 + PyData.depthAll [x, y] < cLine)
    (h : ∀ h' tk, (∀ b o, s.heap.get? b = some o → h'.get? b = some o) → Q (if PySem.W.dataLt y x then v else u) { s with heap := h', toks := tk }) :
    wpAny (model prog w) A (call (.builtin "min") [u, v]) Q E s := by
  have kp0 : ∀ b o, s.heap.get? b = some o → (s.heap.push { cls := .type "tuple", data := .seq #[u, v] }).get? b = some o := fun b o e => Heap.get?_push_of_some _ e
  have hr2 : ReadsAll (s.heap.push { cls := .type "tuple", data := .seq #[u, v] }) (#[u, v] : Array Value).toList [x, y] as := ReadsAll.keeps kp0 hr
  have hT : (s.heap.push { cls := .type "tuple", data := .seq #[u, v] }).IsTuple s.heap.objs.size #[u, v] := ⟨_, Heap.get?_push_size _ rfl, rfl, 0, rfl⟩
  refine call_min_twoH (PySem.W.iter_tupleW (A := A.in1) hh hT fun s₂ e W st hfp hw hk => ?_)
  refine ⟨_, _, _, _, _, _, _, s.heap.push { cls := .type "tuple", data := .seq #[u, v] }, _, rfl, W, st, hfp, by show 0 < 2; omega, hw, hk, PySem.W.cmpIn_lt (A := A.in1) (s := { s with heap := s.heap.push { cls := .type "tuple", data := .seq #[u, v] } }) hr2 ha (by show A.units + 1 + _ < _; exact hu), fun z s' hP m => ?_⟩
  obtain ⟨h', tk, rfl, hk'⟩ := PySem.W.moved_old e rfl m
  have hz : z = if PySem.W.dataLt y x then v else u := by
    have e1 : argBest (fun i j => PySem.W.dataLt ([x, y].getD i .none) ([x, y].getD j .none)) ((#[u, v] : Array Value).size - 1) = if PySem.W.dataLt y x then 1 else 0 := rfl
    rw [e1] at hP
    by_cases c : PySem.W.dataLt y x = true
    · rw [if_pos c] at hP ⊢
      exact (Option.some.inj hP).symm
    · rw [if_neg c] at hP ⊢
      exact (Option.some.inj hP).symm
  rw [hz]
  exact h h' tk fun b o q => hk' b o (kp0 b o q)
end
section
variable {X : Cx} {T : List Nat} {W : WV} {K : Fg}
noncomputable def rMin2T (K : Fg) : List V → Hp → VK → Prop := fun xs H Q => ∃ x y d e, xs = [x, y] ∧ Dp K H x d ∧ Dp K H y e ∧ PySem.W.AlikeAll [d, e] ∧ PyData.depthAll [d, e] ≤ 60 ∧ Q (if PySem.W.dataLt e d then y else x) H
theorem cr_min2T (hcalm : X.calm = true) (hu : X.A.units + 65 < cLine) : CallR X (.builtin "min") (rMin2T X.K) := by
  intro pins s σ H xs us Q I r h
  obtain ⟨x, y, d, e, rfl, hd, he, hal, hdp, q⟩ := h
  obtain ⟨u, v, rfl, ru, rv⟩ := vals2 r
  obtain ⟨as, r1⟩ := Dp.reads I d _ _ hd ru
  obtain ⟨bs, r2⟩ := Dp.reads I e _ _ he rv
  refine min_two_data (I.ok.hd hcalm) (ReadsAll.cons r1 (ReadsAll.cons r2 ReadsAll.nil)) hal (by omega) fun h' tk kp => ?_
  by_cases c : PySem.W.dataLt e d = true
  · rw [if_pos c] at q ⊢
    exact ⟨_, H, I.kept (t' := tk) kp, rv, q⟩
  · rw [if_neg c] at q ⊢
    exact ⟨_, H, I.kept (t' := tk) kp, ru, q⟩
noncomputable def min2TD : List PyData → Option PyData
  | [.tuple d, .tuple e] => if maxOk [.tuple d, .tuple e] then some (if PySem.W.dataLt (.tuple e) (.tuple d) then .tuple e else .tuple d) else none
  | _ => none
theorem ok_min2TD : CallOk K (rMin2T K) min2TD := by
  intro F H vs ds z Q s h e k
  unfold min2TD at e
  split at e
  · rename_i d1 d2
    cases h with
    | cons h t =>
      cases t with
      | cons h2 t =>
        cases t
        split at e
        · rename_i hz
          cases e
          unfold maxOk at hz
          simp only [Bool.and_eq_true] at hz
          obtain ⟨⟨⟨z1, z2⟩, z3⟩, z4⟩ := hz
          obtain ⟨a, ws, rfl, _, h⟩ := h.tup s
          obtain ⟨b, us, rfl, _, h2⟩ := h2.tup s
          refine ⟨_, _, .tuple d1, .tuple d2, rfl, dq_dp _ _ (List.all_eq_true.mp z4 _ (by simp)) (dq_mono s _ _ h.2), dq_dp _ _ (List.all_eq_true.mp z4 _ (by simp)) (dq_mono s _ _ h2.2), ⟨fun x hx y hy => List.all_eq_true.mp (List.all_eq_true.mp z1 x hx) y hy, fun x hx e => by
              have := List.all_eq_true.mp z2 x hx
              rw [e] at this
              cases this⟩, of_decide_eq_true z3, ?_⟩
          by_cases c : PySem.W.dataLt (.tuple d2) (.tuple d1) = true
          · rw [if_pos c] at k ⊢
            exact k _ F H (.refl s) h2.2
          · rw [if_neg c] at k ⊢
            exact k _ F H (.refl s) h.2
        · cases e
  · cases e
theorem minD_mem : ∀ (xs : List PyData) (x : PyData), PySem.W.minD x xs ∈ x :: xs
  | [], x => by simp [PySem.W.minD]
  | y :: ys, x => by
    have ih := minD_mem ys (if PySem.W.dataLt y x then y else x)
    show (ys.foldl (fun a y => if PySem.W.dataLt y a then y else a) (if PySem.W.dataLt y x then y else x)) ∈ _
    rcases List.mem_cons.mp ih with e | e
    · rw [show (ys.foldl (fun a y => if PySem.W.dataLt y a then y else a) (if PySem.W.dataLt y x then y else x)) = _ from e]
      split <;> simp
    · exact List.mem_cons_of_mem _ (List.mem_cons_of_mem _ e)
noncomputable def rMinT (K : Fg) : List V → Hp → VK → Prop := fun xs H Q => ∃ (a : Addr) (b0 : V × PyData) (bs : List (V × PyData)), xs = [.ref a] ∧ Rd H a (.lst ((b0 :: bs).map (·.1))) ∧ (∀ b ∈ b0 :: bs, Dp K H b.1 b.2) ∧ PyData.depthAll ((b0 :: bs).map (·.2)) ≤ 60 ∧ PySem.W.AlikeAll ((b0 :: bs).map (·.2)) ∧
  ∀ b ∈ b0 :: bs, b.2 = PySem.W.minD b0.2 (bs.map (·.2)) → Q b.1 H
theorem cr_minT (hcalm : X.calm = true) (hu : X.A.units + 65 < cLine) : CallR X (.builtin "min") (rMinT X.K) := by
  intro pins s σ H xs us Q I r h
  obtain ⟨a, b0, bs, rfl, hs, hb, hdp, hal, q⟩ := h
  obtain ⟨its, rv, hl, hz⟩ := I.list (.inl hs)
  rw [Vals.ref1 r]
  obtain ⟨as, hr⟩ := PySem.W.each_readsAll (fun b : V × PyData => b.2) (each_reads I hb rv)
  refine PySem.W.min_list_data (x := b0.2) (xs := bs.map fun b : V × PyData => b.2) (I.ok.hd hcalm) hl.isList (show ReadsAll s.heap its.toArray.toList ((b0 :: bs).map (·.2)) as from hr) hal (by have : PyData.depthAll (b0.2 :: bs.map (·.2)) ≤ 60 := hdp; omega) fun i v h' tk cs hi rm kp => ?_
  obtain ⟨w, hw, rw'⟩ := vals_get rv (show its[i]? = some v by simpa using hi)
  rw [List.getElem?_map] at hw
  obtain ⟨b, hbi, rfl⟩ := Option.map_eq_some_iff.mp hw
  have hbm := List.mem_of_getElem? hbi
  obtain ⟨ds, rd⟩ := Dp.reads I _ _ _ (hb b hbm) rw'
  have e : b.2 = PySem.W.minD b0.2 (bs.map (·.2)) := PySem.W.alike_unique _ _ _ _ _ (hal.1 _ (List.mem_map.mpr ⟨b, hbm, rfl⟩) _ (minD_mem (bs.map (·.2)) b0.2)) (PySem.W.reads_keeps kp rd) rm
  exact ⟨b.1, H, I.kept (t' := tk) kp, rw', q b hbm e⟩
noncomputable def minTD : List PyData → Option PyData
  | [.list (d :: ds)] => if maxOk (d :: ds) then some (PySem.W.minD d ds) else none
  | _ => none
theorem ok_minTD : CallOk K (rMinT K) minTD := by
  intro F H vs ds z Q s h e k
  unfold minTD at e
  split at e
  · rename_i d ds
    cases h with
    | cons h t =>
      cases t
      split at e
      · rename_i hz
        cases e
        obtain ⟨a, us, rfl, h1, h2⟩ := h.list s
        cases h2 with
        | @cons v0 us _ _ h3 h4 =>
          have hl := dqAll_len h4
          unfold maxOk at hz
          simp only [Bool.and_eq_true] at hz
          obtain ⟨⟨⟨z1, z2⟩, z3⟩, z4⟩ := hz
          have m1 : (us.zip ds).map (·.1) = us := List.map_fst_zip (by omega)
          have m2 : (us.zip ds).map (·.2) = ds := List.map_snd_zip (by omega)
          have dq : ∀ b ∈ (v0, d) :: us.zip ds, Dq K F b.1 b.2 := fun b hb => by
            rcases List.mem_cons.mp hb with e | hb
            · subst e; exact h3
            · exact dqAll_zip h4 b hb
          have mem : ∀ b ∈ (v0, d) :: us.zip ds, b.2 ∈ d :: ds := fun b hb => by
            rcases List.mem_cons.mp hb with e | hb
            · subst e; simp
            · exact List.mem_cons_of_mem _ (List.of_mem_zip (show (b.1, b.2) ∈ us.zip ds from hb)).2
          refine ⟨a, (v0, d), us.zip ds, rfl, by rw [List.map_cons, m1]; exact h1, fun b hb => dq_dp _ _ (List.all_eq_true.mp z4 _ (mem b hb)) (dq_mono s _ _ (dq b hb)), by rw [List.map_cons, m2]; exact of_decide_eq_true z3, ?_, fun b hb e => ?_⟩
          · rw [List.map_cons, m2]
            exact ⟨fun x hx y hy => List.all_eq_true.mp (List.all_eq_true.mp z1 x hx) y hy, fun x hx e => by
              have := List.all_eq_true.mp z2 x hx
              rw [e] at this
              cases this⟩
          · rw [m2] at e
            have := dq b hb
            rw [e] at this
            exact k _ F H (.refl s) this
      · cases e
  · cases e
end
end VL

end

section
set_option Elab.async false
set_option linter.all false
set_option maxRecDepth 100000
set_option maxHeartbeats 1000000
namespace VL
open PySem PySem.Spec PyProof.Rows L2
mutual
noncomputable def nkD : PyData → Option NestedKey
  | .int i => some (.num i)
  | .tuple ds => (nkDs ds).map .tup
  | .none => none
  | .bool _ => none
  | .str _ => none
  | .list _ => none
  | .dict _ => none
noncomputable def nkDs : List PyData → Option (List NestedKey)
  | [] => some []
  | d :: ds => match nkD d, nkDs ds with
    | some k, some ks => some (k :: ks)
    | _, _ => none
end
mutual
theorem nkD_ok : ∀ {d : PyData} {k : NestedKey}, nkD d = some k → k.data = d ∧ nkI k = true
  | .int i, k, h => by simp only [nkD] at h; cases h; exact ⟨rfl, rfl⟩
  | .tuple ds, k, h => by
    simp only [nkD] at h
    cases z : nkDs ds with
    | none => rw [z] at h; cases h
    | some ks =>
      rw [z] at h; cases h
      obtain ⟨a, b⟩ := nkDs_ok z
      refine ⟨?_, b⟩
      show PyData.tuple (NestedKey.datas ks) = .tuple ds
      rw [a]
  | .none, k, h => by simp [nkD] at h
  | .bool _, k, h => by simp [nkD] at h
  | .str _, k, h => by simp [nkD] at h
  | .list _, k, h => by simp [nkD] at h
  | .dict _, k, h => by simp [nkD] at h
theorem nkDs_ok : ∀ {ds : List PyData} {ks : List NestedKey}, nkDs ds = some ks → NestedKey.datas ks = ds ∧ nkIs ks = true
  | [], ks, h => by simp only [nkDs] at h; cases h; exact ⟨rfl, rfl⟩
  | d :: ds, ks, h => by
    simp only [nkDs] at h
    split at h
    · rename_i k ks' e1 e2
      cases h
      obtain ⟨a1, a2⟩ := nkD_ok e1
      obtain ⟨b1, b2⟩ := nkDs_ok e2
      refine ⟨?_, ?_⟩
      · show NestedKey.data k :: NestedKey.datas ks' = d :: ds
        rw [a1, b1]
      · show (nkI k && nkIs ks') = true
        rw [a2, b2]; rfl
    · cases h
end
noncomputable def nkT (d : PyData) : Option NestedKey := match nkD d with
  | some k => if nkOk k then some k else none
  | none => none
theorem nkT_ok {d : PyData} {k : NestedKey} (h : nkT d = some k) : nkOk k = true ∧ k.data = d := by
  unfold nkT at h
  split at h
  · rename_i k' e
    split at h
    · rename_i c
      cases h
      exact ⟨c, (nkD_ok e).1⟩
    · cases h
  · cases h
theorem nk_ref {K : Fg} {F : Hp} {v : V} {k : NestedKey} (h : Dq K F v k.data) (hk : nkOk k = true) : ∃ b, v = .ref b := by
  cases k with
  | tup ks =>
    have h' : Dq K F v (.tuple (NestedKey.datas ks)) := h
    cases h' with
    | tups => exact ⟨_, rfl⟩
  | _ => simp [nkOk, nkTup] at hk
noncomputable def dictN (t : Tr) (d : PyData) : Option (Option PyData) := match t with
  | .dn kvs => (match nkT d with
    | some k => some (lookP kvs k)
    | none => none)
  | .sn kvs => (match nkT d with
    | some k => some (lookP kvs k)
    | none => none)
  | _ => none
section
variable {K : Fg} {F H : Hp}
theorem look_n : ∀ {es : NEs} {ds : List (NestedKey × PyData)} {k : NestedKey}, es.map (·.1) = ds.map (·.1) → DqAll K F (es.map (·.2.2)) (ds.map (·.2)) →
    (lookP ds k = none → valN es k = none) ∧ ∀ z, lookP ds k = some z → ∃ v, valN es k = some v ∧ Dq K F v z
  | [], [], _, _, _ => ⟨fun _ => rfl, fun e h => by simp [lookP] at h⟩
  | [], _ :: _, _, h, _ => by simp at h
  | _ :: _, [], _, h, _ => by simp at h
  | e1 :: es, d1 :: ds, k, h, q => by
    simp only [List.map_cons, List.cons.injEq] at h q
    cases q with
    | cons q1 q2 =>
      obtain ⟨a1, a2⟩ := look_n (k := k) h.2 q2
      unfold lookP valN at *
      by_cases hk : e1.1 = k
      · have hk' : d1.1 = k := h.1.symm.trans hk
        simp only [List.find?_cons, hk, hk', decide_true, Option.map_some]
        refine ⟨fun h => (by cases h), fun e h => ?_⟩
        cases (Option.some.inj h)
        exact ⟨_, rfl, q1⟩
      · have hk' : ¬ d1.1 = k := fun z => hk (h.1.trans z)
        simp only [List.find?_cons, hk, hk', decide_false]
        exact ⟨a1, a2⟩
theorem keysN_up {es : NEs} {ds : List (NestedKey × PyData)} (s : Same F H) (h : DnOk K F es ds) : KeysN K H es := fun x hx => ⟨(h.2.1 x hx).1, dq_mono s _ _ (h.2.1 x hx).2⟩
theorem dictN_get {v w : V} {t : Tr} {B : List Addr} {d : PyData} {r : Option PyData} (s : Same F H) (q : TrOk K F H v t B) (hk : Dq K F w d) (e : dictN t d = some r) :
    ∃ a es b k, v = .ref a ∧ NAt H a es ∧ KeysN K H es ∧ w = .ref b ∧ nkOk k = true ∧ Dq K H (.ref b) k.data ∧ (r = none → valN es k = none) ∧ ∀ z, r = some z → ∃ x, valN es k = some x ∧ Dq K F x z := by
  unfold dictN at e
  split at e
  · split at e
    · rename_i kvs k ek
      cases e
      obtain ⟨c, rfl⟩ := nkT_ok ek
      obtain ⟨b, rfl⟩ := nk_ref hk c
      cases q with
      | @dn a es _ h1 h2 h3 =>
        obtain ⟨g1, g2⟩ := look_n (k := k) h3.1 h3.2.2
        exact ⟨a, es, b, k, rfl, .inl h1, keysN_up s h3, rfl, c, dq_mono s _ _ hk, g1, g2⟩
    · cases e
  · split at e
    · rename_i kvs k ek
      cases e
      obtain ⟨c, rfl⟩ := nkT_ok ek
      obtain ⟨b, rfl⟩ := nk_ref hk c
      cases q with
      | @sn a o es _ h1 h3 =>
        obtain ⟨g1, g2⟩ := look_n (k := k) h3.1 h3.2.2
        exact ⟨a, es, b, k, rfl, .inr ⟨o, s _ _ h1⟩, keysN_up s h3, rfl, c, dq_mono s _ _ hk, g1, g2⟩
    · cases e
  · cases e
theorem look_put {es : NEs} {ds : List (NestedKey × PyData)} {k : NestedKey} {b : Addr} {v : V} {d : PyData} (h : DnOk K F es ds) (hk : nkOk k = true) (hb : Dq K F (.ref b) k.data) (hv : Dq K F v d) : DnOk K F (putN es k b v) (putP ds k d) := by
  obtain ⟨h1, h2, h3⟩ := h
  have hs : ∀ {es : NEs} {ds : List (NestedKey × PyData)}, es.map (·.1) = ds.map (·.1) → (valN es k).isSome = (ds.any fun kv => decide (kv.1 = k)) := by
    intro es
    induction es with
    | nil => intro ds e; cases ds with
      | nil => rfl
      | cons _ _ => simp at e
    | cons x es ih => intro ds e; cases ds with
      | nil => simp at e
      | cons y ds =>
        simp only [List.map_cons, List.cons.injEq] at e
        have q := ih e.2
        unfold valN at q ⊢
        by_cases c : x.1 = k
        · have c' : y.1 = k := e.1.symm.trans c
          simp [List.find?_cons, c, c']
        · have c' : ¬ y.1 = k := fun z => c (e.1.trans z)
          simp only [List.find?_cons, c, decide_false, List.any_cons, c', Bool.false_or]
          exact q
  have hm : ∀ {es : NEs} {ds : List (NestedKey × PyData)}, es.map (·.1) = ds.map (·.1) → DqAll K F (es.map (·.2.2)) (ds.map (·.2)) →
      (es.map fun e => if e.1 = k then (e.1, e.2.1, v) else e).map (·.1) = (ds.map fun kv => if kv.1 = k then (kv.1, d) else kv).map (·.1) ∧ DqAll K F ((es.map fun e => if e.1 = k then (e.1, e.2.1, v) else e).map (·.2.2)) ((ds.map fun kv => if kv.1 = k then (kv.1, d) else kv).map (·.2)) := by
    intro es
    induction es with
    | nil => intro ds e q; cases ds with
      | nil => exact ⟨rfl, .nil⟩
      | cons _ _ => simp at e
    | cons x es ih => intro ds e q; cases ds with
      | nil => simp at e
      | cons y ds =>
        simp only [List.map_cons, List.cons.injEq] at e q
        cases q with
        | cons q1 q2 =>
          obtain ⟨a1, a2⟩ := ih e.2 q2
          by_cases c : y.1 = k
          · refine ⟨?_, ?_⟩
            · simp only [List.map_cons, e.1, c, if_true, List.cons.injEq, true_and]; exact a1
            · simp only [List.map_cons, e.1, c, if_true]; exact .cons hv a2
          · refine ⟨?_, ?_⟩
            · simp only [List.map_cons, e.1, c, if_false, List.cons.injEq, true_and]; exact a1
            · simp only [List.map_cons, e.1, c, if_false]; exact .cons q1 a2
  have kk : KeysN K F (putN es k b v) := putN_keys h2 hk hb
  refine ⟨?_, kk, ?_⟩ <;> unfold putN putP <;> rw [hs h1] <;> split
  · exact (hm h1 h3).1
  · simp [h1]
  · exact (hm h1 h3).2
  · simp only [List.map_append, List.map_cons, List.map_nil]
    exact dqAll_app h3 (.cons hv .nil)
end
section
variable {X : Cx} {T T1 T2 T3 T4 : List Nat} {W : WV} {K : Fg} {fk fx fe fv : M Rv} {fp1 : M (Nat × List Nat)} {i o e : Expr} {pos pos' apos cpos : Pos}
noncomputable def nIn1 (neg : Bool) (y : Rv) (r : Nat × List Nat) : M Bool := fun ρ => match y, treeAt ρ r with
  | .d d, some t => (match dictN t d with
    | some z => some (.ok (if neg then !z.isSome else z.isSome) ρ)
    | none => none)
  | _, _ => none
noncomputable def cNIn (neg : Bool) (fk : M Rv) (f : M (Nat × List Nat)) : M Bool := bnd fk fun y => bnd f (nIn1 neg y)
theorem vt_nnotin (hu : X.A.units + 65 < cLine) (hi : VE X T1 W i fk) (ho : VP X T2 W o fp1) (hb : behindInMarks .NotIn o = false := by rfl) : VT X (T1 ++ T2) W (.Compare i [.NotIn] [o] pos) (cNIn true fk fp1) :=
  pt_imp (pt_cmp (pc_nnotin hu hi ho) hb) fun σ H Q ⟨F, ρ, fp, ou, E, q, P⟩ => by
    refine tv_bnd E q P (fun j hj => List.mem_append_left _ hj) fun y ρ1 v H1 F1 fp1 s1 r1 e1 P1 => ?_
    refine tv_bnd s1.env e1 P1 (fun j hj => List.mem_append_right _ hj) fun r ρ2 w H2 F2 fp2 s2 r2 e2 P2 => ?_
    unfold nIn1 at e2
    split at e2
    · rename_i d t ht
      split at e2
      · rename_i z hz
        cases ok_inj e2
        obtain ⟨B, qB, _⟩ := place_get s2.env r2 ht
        have hk : Dq X.K F2 v d := RvOk.step s2 (show RvOk X.K F1 σ ρ1 v (.d d) from r1)
        obtain ⟨a, es, b, k, rfl, g1, g2, rfl, g3, g4, g5, g6⟩ := dictN_get s2.env.sub qB hk hz
        have eo : (valN es k).isSome = z.isSome := by
          cases z with
          | none => rw [g5 rfl]; rfl
          | some z => obtain ⟨x, hx, _⟩ := g6 z rfl; rw [hx]; rfl
        refine ⟨a, es, b, k, rfl, g1, g2, rfl, g3, g4, _, rfl, ?_⟩
        rw [eo]
        exact P2 _ H2 F2 fp2 (.refl s2.env) rfl
      · cases e2
    · cases e2
noncomputable def nGet1 (T2 : List Nat) (r : Nat × List Nat) (y : Rv) : M Rv := fun ρ => if T2.contains r.1 then none else match y, treeAt ρ r with
  | .d d, some t => (match dictN t d with
    | some (some z) => some (.ok (.d z) ρ)
    | _ => none)
  | _, _ => none
noncomputable def cNGet (T2 : List Nat) (f : M (Nat × List Nat)) (fk : M Rv) : M Rv := bnd f fun r => bnd fk (nGet1 T2 r)
theorem ve_nget (hu : X.A.units + 65 < cLine) (ho : VP X T1 W o fp1) (hi : VE X T2 W i fk) (hT : T2 = T3 := by rfl) (hs : NoSl i := by intro _ _; rfl) : VE X (T1 ++ T2) W (.Subscript o i pos) (cNGet T3 fp1 fk) :=
  pe_imp (pe_nget hu ho hi hs) fun σ H Q ⟨F, ρ, fp, ou, E, q, P⟩ => by
    subst hT
    refine tv_bnd E q P (fun j hj => List.mem_append_left _ hj) fun r ρ1 v H1 F1 fp1 s1 r1 e1 P1 => ?_
    refine tv_bnd s1.env e1 P1 (fun j hj => List.mem_append_right _ hj) fun y ρ2 w H2 F2 fp2 s2 r2 e2 P2 => ?_
    unfold nGet1 at e2
    split at e2
    · cases e2
    · rename_i hc
      have pl := place_step s1.env s2 (not_in hc) r1
      split at e2
      · rename_i d t ht
        split at e2
        · rename_i z hz
          cases ok_inj e2
          obtain ⟨B, qB, _⟩ := place_get s2.env pl ht
          obtain ⟨a, es, b, k, rfl, g1, g2, rfl, g3, g4, g5, g6⟩ := dictN_get s2.env.sub qB (show Dq X.K F2 w d from r2) hz
          obtain ⟨x, hx, hd⟩ := g6 z rfl
          exact ⟨a, es, b, k, x, rfl, g1, g2, rfl, g3, g4, hx, P2 _ H2 F2 fp2 (.refl s2.env) hd⟩
        · cases e2
      · cases e2
noncomputable def isDn : Option Tr → Bool
  | some (.dn _) => true
  | some (.sn _) => true
  | _ => false
noncomputable def nGet2 (T2 : List Nat) (r : Nat × List Nat) (y x : Rv) : M Rv := fun ρ => if T2.contains r.1 then none else match y, x, treeAt ρ r with
  | .d d, .d u, some t => (match dictN t d with
    | some z => some (.ok (.d (z.getD u)) ρ)
    | none => none)
  | _, _, _ => none
noncomputable def cNGet2 (T2 : List Nat) (f : M (Nat × List Nat)) (fk fx : M Rv) : M Rv := bnd f fun r => fun ρ => if isDn (treeAt ρ r) then (bnd fk fun y => bnd fx (nGet2 T2 r y)) ρ else none
theorem isDn_ok {F H : Hp} {v : V} {t : Tr} {B : List Addr} (s : Same F H) (q : TrOk K F H v t B) (h : isDn (some t) = true) : ∃ a es, v = .ref a ∧ NAt H a es ∧ KeysN K H es := by
  cases q with
  | dn h1 h2 h3 => exact ⟨_, _, rfl, .inl h1, keysN_up s h3⟩
  | sn h1 h3 => exact ⟨_, _, rfl, .inr ⟨_, s _ _ h1⟩, keysN_up s h3⟩
  | _ => cases h
theorem ve_nget2 (hu : X.A.units + 65 < cLine) (ho : VP X T1 W o fp1) (hi : VE X T2 W i fk) (he : VE X T3 W e fx) (hT : T2 ++ T3 = T := by rfl) (m : M2 X o "get" apos i e cpos := by exact ⟨rfl, rfl, rfl, rfl⟩) :
    VE X (T1 ++ (T2 ++ T3)) W (.Call (.Attribute o "get" apos) [i, e] [] cpos) (cNGet2 T fp1 fk fx) :=
  pe_imp (pe_nget2 hu ho hi he m) fun σ H Q ⟨F, ρ, fp, ou, E, q, P⟩ => by
    subst hT
    refine tv_bnd E q P (fun j hj => List.mem_append_left _ hj) fun r ρ1 v H1 F1 fp1 s1 r1 e1 P1 => ?_
    split at e1
    · rename_i hd
      cases ht1 : treeAt ρ1 r with
      | none => rw [ht1] at hd; cases hd
      | some t1 =>
        rw [ht1] at hd
        obtain ⟨B1, qB1, _⟩ := place_get s1.env r1 ht1
        obtain ⟨a, es0, rfl, hD, hK⟩ := isDn_ok s1.env.sub qB1 hd
        refine ⟨a, es0, rfl, hD, hK, ?_⟩
        refine tv_bnd s1.env e1 P1 (fun j hj => List.mem_append_right _ (List.mem_append_left _ hj)) fun y ρ2 w H2 F2 fp2 s2 r2 e2 P2 => ?_
        refine tv_bnd s2.env e2 P2 (fun j hj => List.mem_append_right _ (List.mem_append_right _ hj)) fun x ρ3 u H3 F3 fp3 s3 r3 e3 P3 => ?_
        unfold nGet2 at e3
        split at e3
        · cases e3
        · rename_i hc
          have pl := place_step s1.env ((s2.sub fun i hi => List.mem_append_left _ hi).trans (s3.sub fun i hi => List.mem_append_right _ hi)) (not_in hc) r1
          split at e3
          · rename_i d ud t ht
            split at e3
            · rename_i z hz
              cases ok_inj e3
              obtain ⟨B, qB, _⟩ := place_get s3.env pl ht
              have hk3 : Dq X.K F3 w d := RvOk.step s3 (show RvOk X.K F2 σ ρ2 w (.d d) from r2)
              have hu3 : Dq X.K F3 u ud := r3
              obtain ⟨a', es, b, k, ea, g1, g2, rfl, g3, g4, g5, g6⟩ := dictN_get s3.env.sub qB hk3 hz
              cases ea
              refine ⟨es, b, k, g1, g2, rfl, g3, g4, P3 _ H3 F3 fp3 (.refl s3.env) ?_⟩
              show Dq X.K F3 ((valN es k).getD u) (z.getD ud)
              cases z with
              | none => rw [g5 rfl]; exact hu3
              | some z => obtain ⟨x, hx, hd⟩ := g6 z rfl; rw [hx]; exact hd
            · cases e3
          · cases e3
    · cases e1
noncomputable def nPut1 (T2 : List Nat) (d : PyData) (r : Nat × List Nat) (y : Rv) : MS := fun ρ => if T2.contains r.1 || !modeOk ρ r.1 then none else match y, treeAt ρ r with
  | .d kd, some (.dn ds) => (match nkT kd with
    | some k => if small (ds.length + 1) then some (.nx (putAt ρ r (.dn (putP ds k d)))) else none
    | none => none)
  | _, _ => none
noncomputable def sNPut (T2 : List Nat) (fe : M Rv) (f : M (Nat × List Nat)) (fk : M Rv) : MS := sE fe fun x => match x with
  | .d d => sE f fun r => sE fk (nPut1 T2 d r)
  | .o _ => fun _ => none
theorem vs_nput (hu : X.A.units + 65 < cLine) (he : VE X T1 W e fe) (ho : VP X T2 W o fp1) (hi : VE X T3 W i fk) (hT : T3 = T4 := by rfl) (hs : swapsWith e (some (.Subscript o i pos')) pos.line X.env = pure false := by rfl) :
    VS X W (.Assign [.Subscript o i pos'] e pos) (sNPut T4 fe fp1 fk) :=
  ps_imp (ps_nput hu ho hi he hs) fun D σ H ⟨F, ρ, fp, ou, E, q, P⟩ => by
    subst hT
    refine tv_st E q P fun x ρ1 v H1 F1 fp1 s1 r1 e1 P1 => ?_
    cases x with
    | o _ => cases e1
    | d d =>
      refine tv_st (T := T2) s1.env e1 P1 fun r ρ2 w H2 F2 fp2 s2 r2 e2 P2 => ?_
      refine tv_st (T := T3) s2.env e2 P2 fun y ρ3 z H3 F3 fp3 s3 r3 e3 _ => ?_
      unfold nPut1 at e3
      split at e3
      · cases e3
      · rename_i hc
        obtain ⟨hT, hc'⟩ := touch_of hc
        have pl := place_step s2.env s3 hT r2
        have hd3 : Dq X.K F3 v d := dq_mono (s2.st.fr.trans s3.st.fr) _ _ r1
        split at e3
        · rename_i kd ds hts
          split at e3
          · rename_i k hk
            split at e3
            · rename_i hsm
              cases (Option.some.inj e3)
              obtain ⟨c, rfl⟩ := nkT_ok hk
              have hz3 : Dq X.K F3 z k.data := r3
              obtain ⟨b, rfl⟩ := nk_ref hz3 c
              obtain ⟨B, qB, hB⟩ := place_get s3.env pl hts
              obtain ⟨u, m, t, t', h1, h2, h3, h4⟩ := pl
              have ht' : t.at r.2 = some (.dn ds) := by
                unfold treeAt at hts
                rw [h2] at hts
                exact hts
              cases qB with
              | @dn a es _ f1 f2 f3 =>
                have pp := look_put f3 c hz3 hd3
                obtain ⟨fp', st, _⟩ := mut_step (A := []) (o := DnO a (putN es k b v)) (t'' := .dn (putP ds k d)) s3 h2 (mode_of hc' h2) h1 ht' h4 (fun b hb => nomatch hb) List.nodup_nil (fun b hb => nomatch hb) fun B1 q1 nB1 _ => by
                  cases q1 with
                  | @dn a _ _ g1 g2 g3 =>
                    exact ⟨List.mem_cons_self, [a], .dn upd_same g2 pp, by simp, fun b hb => .inl (by rw [List.mem_singleton.mp hb]; exact List.mem_cons_self)⟩
                have e : putAt ρ3 r (.dn (putP ds k d)) = ρ3.set r.1 (.own m (t.put r.2 (.dn (putP ds k d)))) := by
                  unfold putAt
                  rw [h2]
                have hl : es.length = ds.length := by
                  have := congrArg List.length f3.1
                  simpa using this
                refine ⟨a, es, b, k, rfl, f1, keysN_up s3.env.sub f3, rfl, c, dq_mono s3.env.sub _ _ hz3, by have := small_iff.mp hsm; omega, P2 σ _ F3 fp' ?_⟩
                rw [e]
                exact st.st
            · cases e3
          · cases e3
        · cases e3
theorem new_dn {F H : Hp} {σ : Sg} {ρ : Rho} {fp : FP} {p : Addr} (E : EnvOk K F H σ ρ fp) (np : H p = none) :
    EStep K T F H σ ρ fp F (upd H p (DnO p [])) ρ fp ∧ NewOk K H fp F (upd H p (DnO p [])) fp (.ref p) (.dn []) [p] := by
  refine ⟨(Grow.lay (DnO p []) E.sub np).step E, .dn upd_same (E.sub.free np) ⟨rfl, (fun x hx => nomatch hx), .nil⟩, by simp, fun b hb => ?_, fun b hb ho => ?_⟩
  · rw [List.mem_singleton.mp hb]; exact .inl np
  · rw [List.mem_singleton.mp hb] at ho; exact (E.there ho).1 np
theorem vn_dn : VN X T W (.Dict [] [] pos) (nNew (.dn [])) := pe_imp pe_nnew fun σ H Q ⟨F, ρ, fp, o, E, e, P⟩ => by
  cases ok_inj e
  intro p np
  have z := new_dn (T := T) E np
  exact P _ _ _ fp z.1 ⟨_, z.2⟩
noncomputable def mkDN (x y : Rv) : M Tr := fun ρ => match x, y with
  | .d kd, .d d => (match nkT kd with
    | some k => some (.ok (.dn [(k, d)]) ρ)
    | none => none)
  | _, _ => none
noncomputable def nDN (fk fv : M Rv) : M Tr := bnd fk fun x => bnd fv fun y => mkDN x y
theorem vn_dn1 {k v : Expr} (hu : X.A.units + 65 < cLine) (hk : VE X T1 W k fk) (hv : VE X T2 W v fv)
    (hshape : (evalEachOpt [some k] X.env).zip ((evalEach [v] X.env).map fun v => do let x ← v; standAt pos; pure x) = (pairTrees [some k] [v] X.env pos).map fun p => (some p.1, p.2) := by rfl) (hne : pairTrees [some k] [v] X.env pos ≠ [] := by intro h; cases h) (h15 : (pairTrees [some k] [v] X.env pos).length ≤ 15 := by exact Nat.le_of_ble_eq_true rfl) :
    VN X (T1 ++ T2) W (.Dict [some k] [v] pos) (nDN fk fv) :=
  pe_imp (pe_disp1N hu hk hv hshape hne h15) fun σ H Q ⟨F, ρ, fp, o, E, e, P⟩ => by
    intro p np
    have s0 : EStep X.K (T1 ++ T2) F H σ ρ fp F (upd H p (DnO p [])) ρ fp := (Grow.lay (DnO p []) E.sub np).step E
    have nO : ¬ Owns fp p := fun z => (E.there z).1 np
    have nF : F p = none := E.sub.free np
    have P0 := P.step s0 (fun i hi => hi)
    show TVg T1 W (rlV X.K) fk σ (upd H p (DnO p [])) _
    refine tv_bnd s0.env e P0 (fun i hi => List.mem_append_left _ hi) fun x ρ1 v H1 F1 fp1 s1 r1 e1 P1 => ?_
    refine tv_bnd s1.env e1 P1 (fun i hi => List.mem_append_right _ hi) fun y ρ2 w H2 F2 fp2 s2 r2 e2 P2 => ?_
    unfold mkDN at e2
    split at e2
    · rename_i kd d
      split at e2
      · rename_i ks hks
        cases ok_inj e2
        have nk1 : ∀ {G : Hp}, G p = some (DnO p []) → ¬ KT G p := fun {G} h z => by
          rcases z with ⟨ks, z⟩ | ⟨ps, z⟩
          · rw [h] at z; exact dnO_tup (Option.some.inj z)
          · rw [h] at z; exact dnO_tbl (Option.some.inj z)
        have a1 := s1.st.frame p _ upd_same nO fun _ z => dnO_tbl z
        have nO1 : ¬ Owns fp1 p := fun z => (s1.st.own p z).elim nO fun h => by rw [upd_same] at h; cases h
        have nF1 : F1 p = none := by
          cases h : F1 p with
          | none => rfl
          | some u => exact ((s1.st.nf p nF (by rw [h]; exact fun z => nomatch z)).elim (fun h => by rw [upd_same] at h; cases h) fun z => z.elim nO fun z => nk1 upd_same z).elim
        have a2 := s2.st.frame p _ a1 nO1 fun _ z => dnO_tbl z
        have nO2 : ¬ Owns fp2 p := fun z => (s2.st.own p z).elim nO1 fun h => by rw [a1] at h; cases h
        have nF2 : F2 p = none := by
          cases h : F2 p with
          | none => rfl
          | some u => exact ((s2.st.nf p nF1 (by rw [h]; exact fun z => nomatch z)).elim (fun h => by rw [a1] at h; cases h) fun z => z.elim nO1 fun z => nk1 a1 z).elim
        have hk2 : Dq X.K F2 v kd := RvOk.step s2 (show RvOk X.K F1 σ ρ1 v (.d kd) from r1)
        have hd2 : Dq X.K F2 w d := r2
        obtain ⟨c, rfl⟩ := nkT_ok hks
        obtain ⟨b, rfl⟩ := nk_ref hk2 c
        refine ⟨_, _, rfl, a2, b, ks, rfl, c, dq_mono s2.env.sub _ _ hk2, ?_⟩
        have st := (s0.trans (s1.sub fun i hi => List.mem_append_left _ hi)).trans (s2.sub fun i hi => List.mem_append_right _ hi)
        refine P _ _ F2 fp2 (estep_upd E st np nO2 nF2 a2 (fun ps => dnO_tbl)) ⟨[p], .dn upd_same nF2 ⟨rfl, fun x hx => ?_, .cons hd2 .nil⟩, by simp, fun b hb => ?_, fun b hb => ?_⟩
        · rw [List.mem_singleton.mp hx]; exact ⟨c, hk2⟩
        · rw [List.mem_singleton.mp hb]; exact .inl np
        · rw [List.mem_singleton.mp hb]; exact nO2
      · cases e2
    · cases e2
end
end VL

end

section
set_option Elab.async false
set_option linter.all false
set_option maxRecDepth 100000
set_option maxHeartbeats 1000000
namespace VL
open PySem PySem.Spec PyProof.Rows L2
section
variable {X : Cx} {T T1 T2 T3 T4 : List Nat} {W : WV} {K : Fg} {fp1 : M (Nat × List Nat)} {fa : M Rv} {o e : Expr} {pos pos2 p p2 : Pos}
noncomputable def fzN (ρ : Rho) (i : Nat) : Option Rho := if modeOk ρ i then (match ρ[i]? with
  | some (.own m (.dn ds)) => some (ρ.set i (.own m (.sn ds)))
  | some (.own _ (.sn _)) => some ρ
  | _ => none) else none
noncomputable def sFzN (i : Nat) (g : MS) : MS := fun ρ => match fzN ρ i with
  | some ρ1 => g ρ1
  | none => none
noncomputable def tFrzO (t : TS) : TS := fun D σ H => t D σ H ∨ tFrz t D σ H
theorem ps_frzO {st : Stmt} {t : TS} (h : PS X st t) : PS X st (tFrzO t) := ⟨fun pins s σ H D I h1 => by
  rcases h1 with h1 | h1
  · exact h.run pins s σ H D I h1
  · exact (ps_frz h).run pins s σ H D I h1⟩
theorem frzN_step {F H : Hp} {σ : Sg} {ρ : Rho} {fp : FP} {i : Nat} {m : Md} {ds : List (NestedKey × PyData)} {od : Obj} (E : EnvOk K F H σ ρ fp) (hi : ρ[i]? = some (.own m (.dn ds))) (hm : modeOk ρ i = true) {d : Addr} {es : NEs} (hu : sg σ i = some (.ref d)) (hfp : fp i = [d])
    (f1 : H d = some (DnO d es)) (f2 : F d = none) (f3 : DnOk K F es ds) : ∃ F' fp', Step K F H σ ρ fp F' (upd H d (.frz od (DnO d es))) σ (ρ.set i (.own m (.sn ds))) fp' := by
  have hil := (List.getElem?_eq_some_iff.mp hi).1
  have hml := (mode_of (r := []) hm hi).1
  have dI : ∀ j, j ≠ i → ∀ b ∈ fp j, b ≠ d := fun j hj b hb z => hj (E.ap j i b hb (by rw [hfp, z]; simp))
  have sF : Same F (upd F d (.frz od (DnO d es))) := fun b o e => by
    rw [upd_ne fun z => by rw [z, f2] at e; cases e]; exact e
  have sH : Same (upd F d (.frz od (DnO d es))) (upd H d (.frz od (DnO d es))) := fun b o e => by
    by_cases z : b = d
    · subst z; rw [upd_same] at e ⊢; exact e
    · rw [upd_ne z] at e ⊢; exact E.sub b o e
  have fsub : ∀ {j b}, b ∈ fset fp i [] j → b ∈ fp j ∧ j ≠ i := fun {j b} hb => by
    unfold fset at hb
    split at hb
    · cases hb
    · rename_i z; exact ⟨hb, z⟩
  have al1 : AlOk (upd H d (.frz od (DnO d es))) σ (ρ.set i (.own m (.sn ds))) := al_set2 E hil (by have := mode_nb hm hi; cases m <;> first | rfl | cases this) fun k hk b hb => upd_ne (dI k hk b hb)
  refine ⟨upd F d (.frz od (DnO d es)), fset fp i [], ⟨⟨sH, by rw [List.length_set]; exact E.len, fun j s hs => ?_, fun j hj => ?_, fun j => ?_, fun j l b x1 x2 => E.ap j l b (fsub x1).1 (fsub x2).1, E.tb.mono sF fun P ps h1 h2 => ?_, al1⟩, sF, fun b h h' => ?_, fun b h => ?_, fun b u h n nt => ?_, fun b ⟨j, hb⟩ => .inl ⟨j, (fsub hb).1⟩, fun j mj tj hj hmj => ?_, fun j tj hj => ?_⟩⟩
  · by_cases hji : i = j
    · subst hji
      rw [List.getElem?_set_self hil] at hs
      cases hs
      refine ⟨_, hu, ?_⟩
      unfold fset
      rw [if_pos rfl]
      exact .sn upd_same (f3.mono sF)
    · rw [List.getElem?_set_ne hji] at hs
      unfold fset
      rw [if_neg (Ne.symm hji)]
      have z := E.sl j s hs
      cases s with
      | no => trivial
      | al _ _ => trivial
      | val d' => obtain ⟨w, e1, e2⟩ := z; exact ⟨w, e1, dq_mono sF _ _ e2⟩
      | own m' t' =>
        obtain ⟨w, e1, e2⟩ := z
        exact ⟨w, e1, e2.move sF fun b hb => ⟨upd_ne (dI j (Ne.symm hji) b hb), by rw [upd_ne (dI j (Ne.symm hji) b hb)]; exact (e2.mem b hb).2⟩⟩
  · by_cases hji : i = j
    · subst hji
      exact absurd (List.getElem?_set_self hil) (hj _ _)
    · unfold fset
      rw [if_neg (Ne.symm hji)]
      refine E.nil j fun m t z => hj m t ?_
      rw [List.getElem?_set_ne hji]; exact z
  · unfold fset
    split
    · exact List.nodup_nil
    · exact E.nd j
  · have nd : P ≠ d := fun z => by rw [z, f1] at h1; exact dnO_tbl (Option.some.inj h1)
    exact ⟨by rw [upd_ne nd]; exact h2, upd_ne nd⟩
  · by_cases z : b = d
    · exact .inr (.inl ⟨i, by rw [hfp, z]; simp⟩)
    · rw [upd_ne z] at h'; exact absurd h h'
  · by_cases z : b = d
    · rw [z, upd_same] at h; cases h
    · rw [upd_ne z] at h; exact h
  · have z : b ≠ d := fun z => n ⟨i, by rw [hfp, z]; simp⟩
    rw [upd_ne z]; exact h
  · by_cases hji : i = j
    · subst hji
      rw [hi] at hj; cases hj
      exact ⟨rfl, m, _, List.getElem?_set_self hil, hmj⟩
    · exact ⟨rfl, mj, tj, by rw [List.getElem?_set_ne hji]; exact hj, hmj⟩
  · have hji : i ≠ j := fun z => by subst z; rw [hi] at hj; cases hj; exact hml rfl
    refine ⟨rfl, by rw [List.getElem?_set_ne hji]; exact hj, ?_, fun b hb => upd_ne (dI j (Ne.symm hji) b hb)⟩
    unfold fset
    rw [if_neg (Ne.symm hji)]
theorem vs_fzN (i : Nat) {st : Stmt} {g : MS} (h : VS X W st g) : VS X W st (sFzN i g) := ps_imp (ps_frzO h) fun D σ H ⟨F, ρ, fp, ou, E, q, P⟩ => by
  unfold sFzN at q
  split at q
  · rename_i ρ1 hz
    unfold fzN at hz
    split at hz
    · rename_i hmode
      split at hz
      · rename_i m ds hi
        cases hz
        obtain ⟨u, hu, tk⟩ := E.sl i _ hi
        generalize hA : fp i = A0 at tk
        cases tk with
        | @dn d es _ f1 f2 f3 =>
          refine .inr ⟨d, _, f1, True.intro, fun od => ?_⟩
          obtain ⟨F2, fp2, st2⟩ := frzN_step (od := od) E hi hmode hu hA f1 f2 f3
          exact ⟨F2, _, fp2, ou, st2.env, q, P.step st2⟩
      · cases hz
        exact .inl ⟨F, _, fp, ou, E, q, P⟩
      · cases hz
    · cases hz
  · cases q
noncomputable def iKeyN (f : M (Nat × List Nat)) : M (List PyData) := bnd f fun r => fun ρ => match treeAt ρ r with
  | some (.sn ds) => some (.ok (ds.map fun kv => kv.1.data) ρ)
  | _ => none
theorem vi_keysN {tg : Expr} (h : VP X T W e fp1) : VI X T W tg e (iKeyN fp1) := by
  refine ⟨_, pi_keysN h, fun σ H R F ρ fp o E q P => ?_⟩
  unfold iKeyN bnd at q
  cases hf : fp1 ρ with
  | none => rw [hf] at q; cases q
  | some r0 =>
    rw [hf] at q
    cases r0 with
    | ex c ρ1 => cases q; exact ⟨F, ρ, fp, _, E, hf, fun H1 F1 fq1 st => P H1 F1 fq1 st⟩
    | ok r ρ1 =>
      simp only at q
      split at q
      · rename_i ds hts
        cases q
        refine ⟨F, ρ, fp, _, E, hf, fun u H1 F1 fq1 s1 r1 => ?_⟩
        obtain ⟨B, qB, hB⟩ := place_get s1.env r1 hts
        cases qB with
        | @sn a0 ob es _ h1 h3 =>
          have hl : es.length = ds.length := by
            have := congrArg List.length h3.1
            simpa using this
          have w0 := walk_keysN (d := a0) (o := ob) (es := es)
          rw [hl, ← List.length_map (f := fun kv : NestedKey × PyData => kv.1.data)] at w0
          refine ⟨a0, ob, es, rfl, s1.env.sub _ _ h1, P _ _ _ H1 F1 fq1 s1 w0 (fun F2 H2 a b => b _ _ (a _ _ h1)) fun j F2 H2 x H3 hi a b y => ?_⟩
          obtain ⟨rfl, e, hy, rfl⟩ := y
          have e1 : (es.map (·.1))[j]? = some e.1 := by rw [List.getElem?_map, hy]; rfl
          rw [h3.1, List.getElem?_map] at e1
          obtain ⟨kv, e2, e3⟩ := Option.map_eq_some_iff.mp e1
          refine ⟨F2, e.1.data, ?_, .refl b, dq_mono a _ _ (h3.2.1 e (List.mem_of_getElem? hy)).2⟩
          rw [List.getElem?_map, e2, ← e3]
          rfl
      · cases q
noncomputable def tupRng1 (r : Rv) : M Rv := fun ρ => match r with
  | .d (.int n) => if 0 ≤ n ∧ n ≤ 1000 then some (.ok (.d (.tuple ((List.range n.toNat).map fun i => .int (i : Nat)))) ρ) else none
  | _ => none
noncomputable def cTupRng (f : M Rv) : M Rv := bnd f tupRng1
theorem ve_tuprng (hc : X.calm = true) (hl : Gl X "tuple") (hml : X.mg "tuple" = none) (hg : Gl X "range") (hm : X.mg "range" = none) (ha : VE X T W e fa)
    (na : starEach [e] X.env = (false, eval e X.env) :: starEach [] X.env := by rfl) (nb : starEach [.Call (.Name "range" p2) [e] [] pos2] X.env = (false, eval (.Call (.Name "range" p2) [e] [] pos2) X.env) :: starEach [] X.env := by rfl) :
    VE X T W (.Call (.Name "tuple" p) [.Call (.Name "range" p2) [e] [] pos2] [] pos) (cTupRng fa) :=
  pe_imp (pe_tupRg hc hl hml (prg_1 hg hm ha na) nb) fun σ H Q ⟨F, ρ, fp, ou, E, q, P⟩ => by
    refine tv_bnd E q P (fun j hj => hj) fun r ρ1 v H1 F1 fp1 s1 r1 e1 P1 => ?_
    unfold tupRng1 at e1
    split at e1
    · rename_i n
      split at e1
      · rename_i hn
        cases ok_inj e1
        cases (show Dq X.K F1 v (.int n) from r1)
        refine ⟨n, rfl, ?_, fun q nq => ?_⟩
        · exact RgOk.of_le (by omega) (by omega) (by omega) hn.1
        · have s2 := (Grow.new (.tup (rgV 0 n)) s1.env.sub nq).step (T := T) s1.env
          refine P1 _ _ _ fp1 s2 (.tup upd_same ?_)
          have e : (n - 0).toNat = n.toNat := by rw [Int.sub_zero]
          have : ∀ (G : Hp) (l : List Nat), DqAll X.K G (l.map fun i => V.int (0 + (i : Nat))) (l.map fun i => PyData.int (i : Nat)) := by
            intro G l
            induction l with
            | nil => exact .nil
            | cons x l ih =>
              refine .cons ?_ ih
              show Dq X.K G (V.int (0 + (x : Nat))) (PyData.int (x : Nat))
              rw [Int.zero_add]
              exact .int _
          have q := this (upd F1 q (.tup (rgV 0 n))) (List.range (n - 0).toNat)
          rw [show (List.range (n - 0).toNat).map (fun i => PyData.int (i : Nat)) = (List.range n.toNat).map fun i => .int (i : Nat) from by rw [e]] at q
          exact q
      · cases e1
    · cases e1
end
end VL

end

section
set_option Elab.async false
set_option linter.all false
set_option maxRecDepth 100000
set_option maxHeartbeats 1000000
namespace VL
open PySem PySem.Spec PyProof.Rows L2
section
variable {X : Cx} {T T1 T2 T3 : List Nat} {W : WV} {K : Fg} {fp1 : M (Nat × List Nat)} {fa : M Rv} {fA : M Bool} {fn gn : M Tr} {o e a b c : Expr} {pos p : Pos}
noncomputable def listD1 (x : Rv) : M Tr := fun ρ => match x with
  | .d (.list ds) => some (.ok (.lst (ds.map .dat)) ρ)
  | .d (.tuple ds) => some (.ok (.lst (ds.map .dat)) ρ)
  | _ => none
noncomputable def nListD (f : M Rv) : M Tr := bnd f listD1
theorem vn_listD (hg : Gl X "list") (hm : X.mg "list" = none) (ha : VE X T W e fa) (he : starEach [e] X.env = (false, eval e X.env) :: starEach [] X.env := by rfl) (hpl : (backTo pos (starEach [] X.env)).any (·.1) = false := by rfl) : VN X T W (.Call (.Name "list" p) [e] [] pos) (nListD fa) :=
  pe_imp (pe_callTy call_list_of hg hm (by decide +kernel) (pa_cons ha pa_nil he) (by decide) (by decide) he hpl) fun σ H Q ⟨F, ρ, fp, o, E, q, P⟩ => by
    refine tv_bnd E q P (fun i hi => hi) fun r ρ1 v H1 F1 fq1 s1 r1 e1 P1 => ?_
    unfold listD1 at e1
    split at e1
    · rename_i ds
      cases ok_inj e1
      cases (show Dq X.K F1 v (.list ds) from r1) with
      | @lst a xs _ hs hd =>
        refine ⟨a, xs, rfl, .inl (.inl (rd_mono s1.env.sub hs)), fun y ny => ?_⟩
        obtain ⟨s2, n2⟩ := new_one (ob := .lst xs) (t := .lst (ds.map .dat)) s1 ny (.lst upd_same (s1.env.sub.free ny) (trs_dat hd))
        exact P _ _ F1 fq1 s2 n2
    · rename_i ds
      cases ok_inj e1
      cases (show Dq X.K F1 v (.tuple ds) from r1) with
      | @tups a xs _ hs hd =>
        refine ⟨a, xs, rfl, .inr (hs.mono s1.env.sub).sq, fun y ny => ?_⟩
        obtain ⟨s2, n2⟩ := new_one (ob := .lst xs) (t := .lst (ds.map .dat)) s1 ny (.lst upd_same (s1.env.sub.free ny) (trs_dat hd))
        exact P _ _ F1 fq1 s2 n2
    · cases e1
theorem vn_if (hc : VT X T1 W c fA) (ha : VN X T2 W a fn) (hb : VN X T3 W b gn) : VN X (T1 ++ T2 ++ T3) W (.IfExp c a b pos) (cIf fA fn gn) :=
  pe_imp (pe_ifExp hc ha hb) fun σ H Q ⟨F, ρ, fp, o, E, e, P⟩ => by
    refine tv_bnd E e P (fun i hi => List.mem_append_left _ (List.mem_append_left _ hi)) fun x ρ1 v H1 F1 fp1 s1 r1 e1 P1 => ?_
    have r1 : v = x := r1
    subst r1
    cases v with
    | true =>
      rw [if_pos rfl] at e1 ⊢
      exact tv_cond s1.env e1 P1 fun i hi => List.mem_append_left _ (List.mem_append_right _ hi)
    | false =>
      rw [if_neg Bool.false_ne_true] at e1 ⊢
      exact tv_cond s1.env e1 P1 fun i hi => List.mem_append_right _ hi
noncomputable def cCmpL (g : PyData → PyData → Option Bool) (T2 : List Nat) (f : M (Nat × List Nat)) (fa : M Rv) : M Bool := bnd f fun r => bnd fa fun x => fun ρ => if T2.contains r.1 then none else match (treeAt ρ r).bind Tr.toD, der ρ x with
  | some a, some b => (match g a b with
    | some z => some (.ok z ρ)
    | none => none)
  | _, _ => none
theorem vt_cmpL {op : CmpOp} {r : R2} {gd : PyData → PyData → Option Bool} (ho : OpR X (compareOp op) r) (hg : OpOkD X.K r gd) (ha : VP X T1 W a fp1) (hb : VE X T2 W b fa) (hT : T2 = T3 := by rfl) (hm : behindInMarks op b = false) : VT X (T1 ++ T2) W (.Compare a [op] [b] pos) (cCmpL gd T3 fp1 fa) :=
  pt_imp (pt_cmpR ho ha hb hm) fun σ H Q ⟨F, ρ, fp, o, E, e, P⟩ => by
    subst hT
    refine tv_bnd E e P (fun i hi => List.mem_append_left _ hi) fun x ρ1 v H1 F1 fp1 s1 r1 e1 P1 => ?_
    refine tv_bnd s1.env e1 P1 (fun i hi => List.mem_append_right _ hi) fun y ρ2 w H2 F2 fp2 s2 r2 e2 P2 => ?_
    split at e2
    · cases e2
    · rename_i hc
      have pl := place_step s1.env s2 (not_in hc) r1
      split at e2
      · rename_i p q hp hq
        split at e2
        · rename_i z hz
          cases ok_inj e2
          obtain ⟨t, ht, hd⟩ := Option.bind_eq_some_iff.mp hp
          obtain ⟨B, qB, _⟩ := place_get s2.env pl ht
          exact hg H2 v w p q z _ (qB.dp s2.env.sub (fun _ _ => rfl) hd) (der_ok s2.env r2 hq) hz ⟨z, rfl, P2 z H2 F2 fp2 (.refl s2.env) rfl⟩
        · cases e2
      · cases e2
end
end VL

end

section
set_option Elab.async false
set_option linter.all false
set_option maxRecDepth 100000
set_option maxHeartbeats 1000000
namespace VL
open PySem PySem.Spec PyProof.Rows L2
section
variable {X : Cx} {T : List Nat} {W : WV} {K : Fg}
noncomputable def rSortTI (K : Fg) : List V → Hp → VK → Prop := fun xs H Q => ∃ (a : Addr) (ks : List Int), xs = [.ref a] ∧ SqT K H a (ks.map V.int) ∧
    ∀ (ys : List Int) (p : Addr), ys.Perm ks → ys.Pairwise (· ≤ ·) → H p = none → Q (.ref p) (upd H p (.lst (ys.map V.int)))
theorem cr_sortTI : CallR X (.builtin "sorted") (rSortTI X.K) := by
  intro pins s σ H xs us Q I r q
  obtain ⟨a, ks, ex, hd, q⟩ := q
  subst ex
  obtain ⟨u, eu, rx⟩ := vals1 r
  subst eu
  cases rx
  obtain ⟨its, rv, ⟨o, ho, hc, n, hdt⟩, hz0⟩ := I.tuple hd
  have hli : its.length = ks.length := by rw [← rv.length, List.length_map]
  refine Calls.call_function_entry PyProof.Rows.kind_sorted PyProof.Rows.plain_sorted PyProof.Rows.entry_sorted (PyProof.Rows.args_sorted1 _) ?_
  unfold Builtin.«sorted»
  refine wpAny_bind (m := checkCount "sorted" 1 1 _) (wpAny_pure ?_)
  have hz : its.length ≤ sizeLine := by rw [← rv.length]; exact hz0
  refine wpAny_bind (wpAny_collect_seq a (.inr rfl) ho hc hdt (fun h' hk => ?_) (by rw [List.size_toArray]; exact hz))
  have hS : IntsAre its ks := ints_each hli fun j v e => by
    obtain ⟨w, hw, rw'⟩ := vals_get rv e
    rw [List.getElem?_map] at hw
    obtain ⟨i, hi, rfl⟩ := Option.map_eq_some_iff.mp hw
    obtain ⟨t, ev⟩ := (show ∃ t, v = Value.int i t from rw')
    exact ⟨i, t, hi, ev⟩
  have I1 : Inv X pins σ H { s with heap := h' } := I.kept (t' := s.toks) hk
  show wpAny _ _ (newList its.toArray.toList >>= _) _ _ _
  rw [List.toList_toArray]
  refine wpAny_bind (wpAny_newList ?_ hz)
  have hoL : (h'.push (seqObj "list" its.toArray 0)).get? h'.objs.size = some (seqObj "list" its.toArray 0) := Heap.get?_push_size _ rfl
  show wpAny _ _ _ _ _ { s with heap := h'.push (seqObj "list" its.toArray 0) }
  refine wpAny_bind (wpAny_holding (wpAny_call_entry PyProof.Rows.slot_list_sort ⟨_, hoL, rfl⟩ PyProof.Rows.entry_list_sort
    (SrtO.list_sort_ord (s := { s with heap := h'.push (seqObj "list" its.toArray 0) }) SrtO.swo_int hoL hz (fun h2 => SrtO.ints_sortable hS h2) fun out h1 h2 => ⟨_, rfl, ?_⟩) (PyProof.Rows.args_list_sort _)))
  obtain ⟨g1, g2, g3⟩ := SrtO.ints_out hS h1 h2
  obtain ⟨e', he'⟩ := PyProof.Rows.sortedHeap_at (vs := its) (out := out.toArray) hoL
  have hlen : ((out.map SrtO.iv).map V.int).length ≤ sizeLine := by
    rw [List.length_map, g2.length_eq, ← hli]
    exact hz
  refine wpAny_pure ⟨_, rfl, .ref h'.objs.size, upd H h'.objs.size (.lst ((out.map SrtO.iv).map V.int)), I1.laid (t' := s.toks) (fun b u e => ?_) (Nat.le_refl _)
    (show ObjOk X.prog X.w _ _ _ (.lst ((out.map SrtO.iv).map V.int)) from ⟨hlen, out, e', vals_of_ints g1, he'⟩), rfl, q _ _ g2 g3 (I1.hok.fresh (Nat.le_refl _))⟩
  have hb : b < h'.objs.size := Heap.lt_size e
  rw [PyProof.Rows.sortedHeap_old (Nat.ne_of_lt hb) (by rw [size_push']; exact Nat.lt_succ_of_lt hb)]
  exact Heap.get?_push_of_some _ e
noncomputable def sortTD : List PyData → Option PyData
  | [.tuple ds] => (match intsD ds with
    | some ks => some (.list ((sortI ks).map .int))
    | none => none)
  | _ => none
theorem ok_sortTD : CallOk K (rSortTI K) sortTD := by
  intro F H vs ds z Q s h e k
  unfold sortTD at e
  split at e
  · rename_i ds
    cases h with
    | cons h t =>
      cases t
      split at e
      · rename_i ks hk
        cases e
        obtain ⟨a, ws, rfl, h1, h2, h3⟩ := h.tup s
        have := ints_ok h2 hk
        subst this
        refine ⟨a, ks, rfl, h1, fun ys p hp hy np => ?_⟩
        have e := sortI_uniq hp hy
        subst e
        exact k _ _ _ (.new _ s np) (.lst (.inl upd_same) dq_ints)
      · cases e
  · cases e
end
end VL

end

section
set_option Elab.async false
set_option linter.all false
set_option maxRecDepth 100000
namespace VL
open PySem PySem.Spec PyProof.Rows L2
section
variable {X : Cx} {T : List Nat} {W : WV} {K : Fg}
noncomputable def boolsD : List PyData → Option (List Bool)
  | [] => some []
  | .bool i :: ds => (boolsD ds).map (i :: ·)
  | _ :: _ => none
theorem bools_ok {F : Hp} : ∀ {vs : List V} {ds : List PyData} {bs : List Bool}, DqAll K F vs ds → boolsD ds = some bs → vs = bs.map V.bl
  | _, _, _, .nil, e => by simp only [boolsD] at e; cases e; rfl
  | _, _, _, .cons (d := d) h t, e => by
    cases d <;> simp only [boolsD] at e <;> try (cases e; done)
    obtain ⟨ms, e1, rfl⟩ := map_some e
    cases h
    rw [bools_ok t e1]
    rfl
noncomputable def allD : List PyData → Option PyData
  | [.list ds] => (boolsD ds).map fun bs => .bool (bs.all id)
  | _ => none
theorem ok_allD : CallOk K (rAll K) allD := by
  intro F H vs ds z Q s h e k
  unfold allD at e
  split at e
  · cases h with
    | cons h t =>
      cases t
      obtain ⟨bs, e1, rfl⟩ := map_some e
      obtain ⟨a, us, rfl, h1, h2⟩ := h.list s
      have := bools_ok h2 e1
      subst this
      exact ⟨a, bs, rfl, .inl h1, k _ F H (.refl s) (.bl _)⟩
  · cases e
end
end VL
namespace VL
open PySem PySem.Spec PyProof.Rows L2
end VL

end

section
set_option Elab.async false
set_option linter.all false
set_option maxRecDepth 100000
namespace K09
open PySem PySem.Spec PyProof.Rows L2 VL SM SN
noncomputable def s_x556e6c696b652b : Str := ⟨#[85, 110, 108, 105, 107, 101, 43]⟩
theorem e_x556e6c696b652b : ("Unlike+" : Str) = s_x556e6c696b652b := by decide +kernel
noncomputable def b__law_some_0 : MS := (sSeq (sSet 7 (cBin subD (cFrz (nLst (aCons (cD (.str sBought)) (aCons (cD (.str sSold)) aNil)))) (cBin modD (cBin addD (cCall intD (aCons (cOf (cCmp gtD (cFrz (nCall [0] 2 fTake (aCons (cVar 0) (aCons (cD (.int 3)) aNil)))) (cD (.int 0)))) aNil)) (cVar 1)) (cD (.int 2)))))
  (sApp [0, 0] (pVar 5) (nDat (cTup (aCons (cVar 1) (aCons (cVar 2) (aCons (cVar 7) (aCons (cBin addD (cD (.int 100)) (cFrz (nCall [0] 2 fTake (aCons (cVar 0) (aCons (cD (.int 3)) aNil))))) (aCons (cBin addD (cD (.int 1)) (cFrz (nCall [0] 2 fTake (aCons (cVar 0) (aCons (cD (.int 3)) aNil))))) (aCons (cVar 4) aNil))))))))))
noncomputable def g__law_some : MS := (sSeq (sSetN 5 (nLst aNil))
  (sSeq (sFor (iRange1 (aCons (cVar 3) aNil)) (gN 6) b__law_some_0)
  (sRetV 5)))
noncomputable def F__law_some : Fn := runF 8 g__law_some
noncomputable def b__law_least_0 : MS := (sNPut [] (cCall min2TD (aCons (cVar 12) (aCons (cNGet2 [] (pVar 4) (cVar 11) (cVar 12)) aNil))) (pVar 4) (cVar 11))
noncomputable def b__law_least_1 : MS := (sIf (cCmp notInD (cVar 9) (cVar 5)) (sSeq (sSet 10 (cBin addD (cVar 6) (cCall lenD (aCons (cFrz (nCall [] 2 SM.F__law_quarrel (aCons (cBin subD (cVar 0) (cVar 3)) (aCons (cBin subD (cVar 1) (cVar 9)) aNil)))) aNil))))
  (sApp [] (pVar 8) (nDat (cTup (aCons (cCall tupleD (aCons (cCall sortTD (aCons (cBin addD (cVar 5) (cTup (aCons (cVar 9) aNil))) aNil)) aNil)) (aCons (cTup (aCons (cVar 10) (aCons (cBin addD (cVar 7) (cFrz (nLst (aCons (cTup (aCons (cVar 3) (aCons (cVar 9) aNil))) aNil)))) aNil))) aNil)))))) sNil)
noncomputable def b__law_least_2 : MS := (sSeq (sAsg (gT 2 (gsC (gN 6) (gsC (gN 7) gsN))) (cNGet [] (pVar 2) (cVar 5)))
  (sSeq (sSetN 8 (nLst (aCons (cTup (aCons (cVar 5) (aCons (cTup (aCons (cBin addD (cVar 6) (cD (.int 2))) (aCons (cVar 7) aNil))) aNil))) aNil)))
  (sSeq (sFor (iRange1 (aCons (cCall lenD (aCons (cVar 1) aNil)) aNil)) (gN 9) b__law_least_1)
  (sFz 8 (sFor (iSeq (cVar 8)) (gT 2 (gsC (gN 11) (gsC (gN 12) gsN))) b__law_least_0)))))
noncomputable def b__law_least_3 : MS := (sSeq (sSetN 4 (nNew (.dn [])))
  (sSeq (sFzN 2 (sFor (iKeyN (pVar 2)) (gN 5) b__law_least_2))
  (sSetN 2 (nMv 4))))
noncomputable def g__law_least : MS := (sSeq (sSetN 2 (nDN (cTup aNil) (cTup (aCons (cD (.int 0)) (aCons (cFrz (nLst aNil)) aNil)))))
  (sSeq (sFor (iRange1 (aCons (cCall lenD (aCons (cVar 0) aNil)) aNil)) (gN 3) b__law_least_3)
  (sFzN 2 (sRet (nDat (cCall minTD (aCons (cFrz (nComp (iKeyN (pVar 2)) [5] (gN 5) tYesM (cTup (aCons (cBin addD (cBin subD (cNGet [] (pVar 2) (cVar 5)) (cD (.int 0))) (cBin mulD (cD (.int 2)) (cBin subtD (cCall lenD (aCons (cVar 1) aNil)) (cCall lenD (aCons (cVar 5) aNil))))) (aCons (cBin subD (cNGet [] (pVar 2) (cVar 5)) (cD (.int 1))) aNil))))) aNil)))))))
noncomputable def F__law_least : Fn := runF 13 g__law_least
noncomputable def b_fit_from_0 (F : Fn) : MS := (sSeq (sSet 8 (cCall tupleD (aCons (cFrz (nComp (iSeq (cVar 2)) [9] (gN 9) (cCmp neD (cVar 9) (cVar 7)) (cVar 9))) aNil)))
  (sSeq (sAsg (gT 2 (gsC (gN 4) (gsC (gN 5) gsN))) (cFrz (nCall [0, 8, 3] 4 F (aCons (cVar 0) (aCons (cBin addD (cVar 1) (cD (.int 1))) (aCons (cVar 8) (aCons (cVar 3) aNil)))))))
  (sSet 6 (cCall min2TD (aCons (cVar 6) (aCons (cTup (aCons (cBin addD (cVar 4) (cBin subD (cBin subD (cVar 0) (cVar 1)) (cVar 7))) (aCons (cBin addD (cTup (aCons (cTup (aCons (cVar 1) (aCons (cVar 7) aNil))) aNil)) (cVar 5)) aNil))) aNil))))))
noncomputable def g_fit_from (F : Fn) : MS := (sSeq (sIf (cCmp eqD (cVar 1) (cCall lenD (aCons (cVar 0) aNil))) (sRet (nDat (cTup (aCons (cBin mulD (cD (.int (2))) (cCall lenD (aCons (cVar 2) aNil))) (aCons (cTup aNil) aNil))))) sNil)
  (sSeq (sIf (cNIn true (cTup (aCons (cVar 1) (aCons (cVar 2) aNil))) (pVar 3)) (sSeq (sAsg (gT 2 (gsC (gN 4) (gsC (gN 5) gsN))) (cFrz (nCall [0, 2, 3] 4 F (aCons (cVar 0) (aCons (cBin addD (cVar 1) (cD (.int 1))) (aCons (cVar 2) (aCons (cVar 3) aNil)))))))
  (sSeq (sSet 6 (cTup (aCons (cBin addD (cVar 4) (cD (.int (2)))) (aCons (cVar 5) aNil))))
  (sSeq (sFor (iSeq (cVar 2)) (gN 7) (b_fit_from_0 F))
  (sNPut [] (cVar 6) (pVar 3) (cTup (aCons (cVar 1) (aCons (cVar 2) aNil))))))) sNil)
  (sRet (nDat (cNGet [] (pVar 3) (cTup (aCons (cVar 1) (aCons (cVar 2) aNil))))))))
noncomputable def F_fit_from : Nat → Fn
  | 0 => runF 10 (fun _ => none)
  | k + 1 => runF 10 (g_fit_from (F_fit_from k))
noncomputable def b_best_fit_0 : MS := (sIf (cNot (cTest (cCall allD (aCons (cFrz (nComp (iSeq (cVar 1)) [3] (gN 3) tYesM (cFrz (nCall [2, 3] 2 SM.F_belong (aCons (cVar 2) (aCons (cVar 3) aNil)))))) aNil)))) (sRaise SM.s_Unlike) sNil)
noncomputable def g_best_fit : MS := (sSeq (sFor (iSeq (cVar 0)) (gN 2) b_best_fit_0)
  (sSeq (sSet 4 (cFrz (nComp (iSeq (cVar 0)) [2] (gN 2) tYesM (cFrz (nComp (iSeq (cVar 1)) [3] (gN 3) tYesM (cCall lenD (aCons (cFrz (nCallR [2, 3] 2 SM.F_quarrel_of (aCons (cVar 2) (aCons (cVar 3) aNil)))) aNil)))))))
  (sSeq (sAsg (gT 2 (gsC (gN 5) (gsC (gN 6) gsN))) (cFrz (nCallX [4] 4 (F_fit_from 12) (xCons (cVar 4) (xCons (cD (.int 0)) (xCons (cTupRng (cCall lenD (aCons (cVar 1) aNil))) (xLast (nNew (.dn [])))))))))
  (sRet (nTupT (tConsM (nDat (cVar 5)) (tConsM (nListD (cVar 6)) tNilM)))))))
noncomputable def F_best_fit : Fn := runF 7 g_best_fit
noncomputable def g__law_asked : MS := (sSeq (sSet 2 (cD .none))
  (sSeq (sSet 3 (cD (.str s_x)))
  (sSeq (sTryK kNames 4 3 (sSetN 2 (nCallR [0, 1] 2 F_best_fit (aCons (cVar 0) (aCons (cVar 1) aNil)))))
  (sRet (cIf (cCmp eqD (cVar 3) (cD (.str s_x))) (nMv 2) (nDat (cVar 3)))))))
noncomputable def F__law_asked : Fn := runF 5 g__law_asked
noncomputable def b_law_0 : MS := (sSeq (sSetN 8 (nCall [] 2 F__law_asked (aCons (cBin subD (cVar 6) (cD (.int 0))) (aCons (cBin subD (cVar 6) (cD (.int 1))) aNil))))
  (sSeq (sIf (cOr (cNot (cTest (cIsiP .tuple (pVar 8)))) (cOr (cCmpL neD [4, 5] (pVar 8) (cFrz (nCall [4, 5] 2 F__law_least (aCons (cVar 4) (aCons (cVar 5) aNil))))) (cCmp neD (cVar 6) (cTup (aCons (cVar 4) (aCons (cVar 5) aNil)))))) (sRet (nDat (cD (.bool false)))) sNil)
  (sApp [] (pIx [] (pVar 8) (cD (.int 1))) (nDat (cD .none)))))
noncomputable def b_law_1 : MS := (sSeq (sSetN 2 (nCall [0, 1] 2 fBag (aCons (cVar 0) (aCons (cVar 1) aNil))))
  (sSeq (sSet 3 (cBin subD (cFrz (nLst (aCons (cD (.int 5)) (aCons (cD (.int 5)) (aCons (cD (.int 5)) (aCons (cD (.int 8)) aNil)))))) (cFrz (nCall [2] 2 fTake (aCons (cVar 2) (aCons (cD (.int 4)) aNil))))))
  (sSeq (sSet 4 (cFrz (nCall [2] 5 F__law_some (aCons (cVar 2) (aCons (cD (.int 0)) (aCons (cD (.int 1)) (aCons (cFrz (nCall [2, 3] 2 fTake (aCons (cVar 2) (aCons (cVar 3) aNil)))) (aCons (cD (.int 7)) aNil))))))))
  (sSeq (sSet 5 (cFrz (nCall [2] 5 F__law_some (aCons (cVar 2) (aCons (cD (.int 1)) (aCons (cD (.int 0)) (aCons (cFrz (nCall [2, 3] 2 fTake (aCons (cVar 2) (aCons (cVar 3) aNil)))) (aCons (cD (.int 7)) aNil))))))))
  (sSeq (sSet 6 (cTup (aCons (cCall listD (aCons (cVar 4) aNil)) (aCons (cCall listD (aCons (cVar 5) aNil)) aNil))))
  (sSeq (sFor (iRange1 (aCons (cD (.int 2)) aNil)) (gN 7) b_law_0)
  (sSeq (sSet 9 (cBin subD (cFrz (nLst (aCons (cTup (aCons (cD (.int 2)) (aCons (cD (.int 0)) (aCons (cD (.str sSold)) (aCons (cD (.int 100)) (aCons (cD (.int 1)) (aCons (cD (.int 7)) aNil))))))) (aCons (cTup (aCons (cD (.int 1)) (aCons (cD (.int 0)) (aCons (cD (.str sSold)) (aCons (cD (.int 100)) (aCons (cD (.int 1)) (aCons (cD (.int 8)) aNil))))))) (aCons (cTup (aCons (cD (.int 0)) (aCons (cD (.int 1)) (aCons (cD (.str sBought)) (aCons (cD (.int 100)) (aCons (cD (.int 1)) (aCons (cD (.int 7)) aNil))))))) aNil))))) (cFrz (nCall [2] 2 fTake (aCons (cVar 2) (aCons (cD (.int 3)) aNil))))))
  (sIf (cAnd (cCmp neD (cVar 4) (cFrz (nLst aNil))) (cCmp neD (cFrz (nCall [4] 2 F__law_asked (aCons (cVar 4) (aCons (cBin addD (cCut (cVar 5) oNone (oSome (cD (.int 6)))) (cFrz (nLst (aCons (cVar 9) aNil)))) aNil)))) (cD (.str s_x556e6c696b652b)))) (sRet (nDat (cD (.bool false)))) sNil))))))))
noncomputable def g_law : MS := (sSeq (sFor (iRange1 (aCons (cBin addD (cD (.int 1)) (cCall min2D (aCons (cCall lenD (aCons (cVar 0) aNil)) (aCons (cD (.int 8)) aNil)))) aNil)) (gN 1) b_law_1)
  (sRet (nDat (cD (.bool true)))))
noncomputable def F_law : Fn := runF 10 g_law
end K09

end

section
set_option Elab.async false
set_option linter.all false
set_option maxRecDepth 100000
set_option maxHeartbeats 0
namespace K09
open PySem PySem.Spec PyProof.Rows L2 VL SM SN
noncomputable def topS (i : Nat) : Stmt := PySem.Challenge.pw_palmhall_k09_best_fits.main.body.getD i (.Pass ⟨0, 0, 0, 0⟩)
noncomputable abbrev st_belong : Stmt := topS 20
noncomputable abbrev st__law_bag : Stmt := topS 27
noncomputable abbrev st__law_take : Stmt := topS 28
noncomputable abbrev st__law_kinds : Stmt := topS 29
noncomputable abbrev st__law_quarrel : Stmt := topS 30
noncomputable abbrev st_quarrel_of : Stmt := topS 21
noncomputable abbrev st__law_some : Stmt := topS 32
noncomputable abbrev st__law_least : Stmt := topS 33
noncomputable abbrev st_fit_from : Stmt := topS 24
noncomputable abbrev st_best_fit : Stmt := topS 25
noncomputable abbrev st__law_asked : Stmt := topS 31
noncomputable abbrev st_law : Stmt := topS 34
set_option genInjectivity false in
set_option genSizeOf false in
structure Ad where
  f_belong : Addr
  d_belong : FuncData
  f__law_bag : Addr
  d__law_bag : FuncData
  f__law_take : Addr
  d__law_take : FuncData
  f__law_kinds : Addr
  d__law_kinds : FuncData
  f__law_quarrel : Addr
  d__law_quarrel : FuncData
  f_quarrel_of : Addr
  d_quarrel_of : FuncData
  f__law_some : Addr
  d__law_some : FuncData
  f__law_least : Addr
  d__law_least : FuncData
  f_fit_from : Addr
  d_fit_from : FuncData
  f_best_fit : Addr
  d_best_fit : FuncData
  f__law_asked : Addr
  d__law_asked : FuncData
  f_law : Addr
  d_law : FuncData
  C_BadNumber : Addr
  C_Closed : Addr
  C_NoBargain : Addr
  C_NoMember : Addr
  C_NoOffer : Addr
  C_NoQuarrel : Addr
  C_NoRow : Addr
  C_NoSign : Addr
  C_NoText : Addr
  C_NoWay : Addr
  C_NotSeen : Addr
  C_NotTheirs : Addr
  C_NothingLeft : Addr
  C_Own : Addr
  C_TooMany : Addr
  C_Twice : Addr
  C_Unlike : Addr
  C_HallError : Addr
structure All (K : Fg) (w : World) (mg : Str → Option Value) (a : Ad) : Prop where
  F_belong : Fun K "belong" "belong" st_belong a.f_belong a.d_belong
  m_belong : mg "belong" = some (.ref a.f_belong)
  b_belong : Binds K a.d_belong ["one", "other"] []
  F__law_bag : Fun K "_law_bag" "_law_bag" st__law_bag a.f__law_bag a.d__law_bag
  m__law_bag : mg "_law_bag" = some (.ref a.f__law_bag)
  b__law_bag : Binds K a.d__law_bag ["script", "k"] []
  F__law_take : Fun K "_law_take" "_law_take" st__law_take a.f__law_take a.d__law_take
  m__law_take : mg "_law_take" = some (.ref a.f__law_take)
  b__law_take : Binds K a.d__law_take ["bag", "many"] []
  F__law_kinds : Fun K "_law_kinds" "_law_kinds" st__law_kinds a.f__law_kinds a.d__law_kinds
  m__law_kinds : mg "_law_kinds" = some (.ref a.f__law_kinds)
  b__law_kinds : Binds K a.d__law_kinds ["e"] []
  F__law_quarrel : Fun K "_law_quarrel" "_law_quarrel" st__law_quarrel a.f__law_quarrel a.d__law_quarrel
  m__law_quarrel : mg "_law_quarrel" = some (.ref a.f__law_quarrel)
  b__law_quarrel : Binds K a.d__law_quarrel ["one", "other"] []
  F_quarrel_of : Fun K "quarrel_of" "quarrel_of" st_quarrel_of a.f_quarrel_of a.d_quarrel_of
  m_quarrel_of : mg "quarrel_of" = some (.ref a.f_quarrel_of)
  b_quarrel_of : Binds K a.d_quarrel_of ["one", "other"] []
  F__law_some : Fun K "_law_some" "_law_some" st__law_some a.f__law_some a.d__law_some
  m__law_some : mg "_law_some" = some (.ref a.f__law_some)
  b__law_some : Binds K a.d__law_some ["bag", "writer", "other", "many", "moment"] []
  F__law_least : Fun K "_law_least" "_law_least" st__law_least a.f__law_least a.d__law_least
  m__law_least : mg "_law_least" = some (.ref a.f__law_least)
  b__law_least : Binds K a.d__law_least ["ones", "others"] []
  F_fit_from : Fun K "fit_from" "fit_from" st_fit_from a.f_fit_from a.d_fit_from
  m_fit_from : mg "fit_from" = some (.ref a.f_fit_from)
  b_fit_from : Binds K a.d_fit_from ["costs", "at", "left", "known"] []
  F_best_fit : Fun K "best_fit" "best_fit" st_best_fit a.f_best_fit a.d_best_fit
  m_best_fit : mg "best_fit" = some (.ref a.f_best_fit)
  b_best_fit : Binds K a.d_best_fit ["ones", "others"] []
  F__law_asked : Fun K "_law_asked" "_law_asked" st__law_asked a.f__law_asked a.d__law_asked
  m__law_asked : mg "_law_asked" = some (.ref a.f__law_asked)
  b__law_asked : Binds K a.d__law_asked ["ones", "others"] []
  F_law : Fun K "law" "law" st_law a.f_law a.d_law
  m_law : mg "law" = some (.ref a.f_law)
  b_law : Binds K a.d_law ["script"] []
  n_ValueError : mg "ValueError" = none
  n_all : mg "all" = none
  n_int : mg "int" = none
  n_isinstance : mg "isinstance" = none
  n_len : mg "len" = none
  n_list : mg "list" = none
  n_min : mg "min" = none
  n_range : mg "range" = none
  n_sorted : mg "sorted" = none
  n_tuple : mg "tuple" = none
  m_ALONE : ∃ t, mg "ALONE" = some (.int 2 t)
  m_BadNumber : mg "BadNumber" = some (.ref a.C_BadNumber)
  m_Closed : mg "Closed" = some (.ref a.C_Closed)
  m_NoBargain : mg "NoBargain" = some (.ref a.C_NoBargain)
  m_NoMember : mg "NoMember" = some (.ref a.C_NoMember)
  m_NoOffer : mg "NoOffer" = some (.ref a.C_NoOffer)
  m_NoQuarrel : mg "NoQuarrel" = some (.ref a.C_NoQuarrel)
  m_NoRow : mg "NoRow" = some (.ref a.C_NoRow)
  m_NoSign : mg "NoSign" = some (.ref a.C_NoSign)
  m_NoText : mg "NoText" = some (.ref a.C_NoText)
  m_NoWay : mg "NoWay" = some (.ref a.C_NoWay)
  m_NotSeen : mg "NotSeen" = some (.ref a.C_NotSeen)
  m_NotTheirs : mg "NotTheirs" = some (.ref a.C_NotTheirs)
  m_NothingLeft : mg "NothingLeft" = some (.ref a.C_NothingLeft)
  m_Own : mg "Own" = some (.ref a.C_Own)
  m_TooMany : mg "TooMany" = some (.ref a.C_TooMany)
  m_Twice : mg "Twice" = some (.ref a.C_Twice)
  m_Unlike : mg "Unlike" = some (.ref a.C_Unlike)
  m_HallError : mg "HallError" = some (.ref a.C_HallError)
  tb : TabOk K mg [(SM.s_BadNumber, a.C_BadNumber), (SM.s_Closed, a.C_Closed), (SM.s_NoBargain, a.C_NoBargain), (SM.s_NoMember, a.C_NoMember), (SM.s_NoOffer, a.C_NoOffer), (SM.s_NoQuarrel, a.C_NoQuarrel), (SM.s_NoRow, a.C_NoRow), (SM.s_NoSign, a.C_NoSign), (SM.s_NoText, a.C_NoText), (SM.s_NoWay, a.C_NoWay), (SM.s_NotSeen, a.C_NotSeen), (SM.s_NotTheirs, a.C_NotTheirs), (SM.s_NothingLeft, a.C_NothingLeft), (SM.s_Own, a.C_Own), (SM.s_TooMany, a.C_TooMany), (SM.s_Twice, a.C_Twice), (SM.s_Unlike, a.C_Unlike)] a.C_HallError
section
variable {P : Program} {w : World} {K : PySem.W.Frag} {mg : Str → Option Value} {base : Heap} {a : Ad}
noncomputable abbrev N_belong : List Str := ["one", "other"]
theorem sc_belong : FnScope N_belong ["one", "other"] (defScope st_belong) := ⟨rfl, rfl, rfl, by decide +kernel, rfl, by decide +kernel, by decide +kernel⟩
theorem ok_belong (A : All K w mg a) : FnOk P w K mg base CX0 1 a.f_belong a.d_belong ["one", "other"] (spV K Wx0 2 SM.F_belong) :=
  fn_ok (k := 0) A.F_belong sc_belong fun cdv Ar outer s H E hr => by
   have A := A
   exact (vss_one (vs_ret (vn_dat (ve_and (ve_cmp (op_eqD hr.units) ok_eqD (ve_ix (ve_var 0) ve_int) (ve_ix (ve_var 1) ve_int) (nomark _)) (ve_and (ve_cmp (op_eqD hr.units) ok_eqD (ve_ix (ve_var 0) ve_int) (ve_ix (ve_var 1) ve_int) (nomark _)) (ve_one (ve_cmp (op_eqD hr.units) ok_eqD (ve_ix (ve_var 0) ve_int) (ve_ix (ve_var 1) ve_int) (nomark _))))))))
noncomputable abbrev N__law_bag : List Str := ["script", "k", "cell"]
theorem sc__law_bag : FnScope N__law_bag ["script", "k"] (defScope st__law_bag) := ⟨rfl, rfl, rfl, by decide +kernel, rfl, by decide +kernel, by decide +kernel⟩
theorem ok__law_bag (A : All K w mg a) : FnOk P w K mg base CX0 1 a.f__law_bag a.d__law_bag ["script", "k"] (spV K Wx0 2 fBag) :=
  fn_ok (k := 0) A.F__law_bag sc__law_bag fun cdv Ar outer s H E hr => by
   have A := A
   exact (vss_cons (vs_set (i := 2) sc__law_bag.nd ve_int)
    (vss_cons (vs_if (vt_cmp op_lt ok_icmp (ve_var 1) (ve_callB call_len ok_lenD (by rfl) A.n_len (by decide +kernel) (va_cons (ve_var 0) va_nil)) (nomark _)) (vss_one (vs_set (i := 2) sc__law_bag.nd (ve_mod (ve_ix (ve_var 0) (ve_var 1)) (ve_mul (ve_pow ve_int ve_int) (ve_pow ve_int ve_int))))) vss_nil)
    (vss_cons (vs_if (vt_cmp op_lt ok_icmp (ve_var 2) (ve_pow ve_int ve_int) (nomark _)) (vss_one (vs_ret (vn_lst (va_cons ve_int (va_cons (ve_add ve_int (ve_mod (ve_add (ve_mul (ve_var 2) ve_int) (ve_mul ve_int (ve_var 1))) ve_int)) va_nil))))) vss_nil)
    (vss_one (vs_ret (vn_lst (va_cons (ve_var 2) (va_cons (ve_add ve_int (ve_mod (ve_add (ve_var 2) (ve_var 1)) ve_int)) va_nil))))))))
noncomputable abbrev N__law_take : List Str := ["bag", "many", "found"]
theorem sc__law_take : FnScope N__law_take ["bag", "many"] (defScope st__law_take) := ⟨rfl, rfl, rfl, by decide +kernel, rfl, by decide +kernel, by decide +kernel⟩
theorem ok__law_take (A : All K w mg a) : FnOk P w K mg base CX0 1 a.f__law_take a.d__law_take ["bag", "many"] (spV K Wx0 2 fTake) :=
  fn_ok (k := 0) A.F__law_take sc__law_take fun cdv Ar outer s H E hr => by
   have A := A
   exact (vss_cons (vs_if (vt_cmp op_gt ok_icmp (ve_ix (ve_var 0) ve_int) ve_int (nomark _)) (vss_cons (vs_set (i := 2) sc__law_take.nd (ve_mod (ve_ix (ve_var 0) ve_int) (ve_var 1)))
    (vss_cons (vs_setIx (ve_fdiv (ve_ix (ve_var 0) ve_int) (ve_var 1)) (vp_var 0) ve_int)
    (vss_one (vs_retV 2)))) vss_nil)
    (vss_cons (vs_setIx (ve_mod (ve_mul (ve_ix (ve_var 0) ve_int) ve_int) ve_int) (vp_var 0) ve_int)
    (vss_one (vs_ret (vn_dat (ve_mod (ve_fdiv (ve_mod (ve_mul (ve_ix (ve_var 0) ve_int) (ve_ix (ve_var 0) ve_int)) ve_int) ve_int) (ve_var 1)))))))
noncomputable abbrev N__law_kinds : List Str := ["e", "some", "words", "k"]
theorem sc__law_kinds : FnScope N__law_kinds ["e"] (defScope st__law_kinds) := ⟨rfl, rfl, rfl, by decide +kernel, rfl, by decide +kernel, by decide +kernel⟩
theorem ok__law_kinds (A : All K w mg a) : VLH.FnE P w K mg base 1 a.f__law_kinds a.d__law_kinds ["e"] (spK K mg kNames) :=
  fn_kinds (k := 0) A.F__law_kinds sc__law_kinds A.tb rfl fun c D hc hm ex ve cdv Ar outer s H E p hot hz hfl => by
   have A := A
   exact (vss_cons (vs_set (i := 1) sc__law_kinds.nd (ve_frz (vn_lst (va_cons (ve_isE 0 ex hz hfl List.mem_cons_self (A.tb.kit hc hm (List.mem_of_getElem? (i := 0) rfl)) A.n_isinstance (by rfl) (pe_glob (v := .ref a.C_BadNumber) (by rfl) A.m_BadNumber rfl) (fun _ h => h)) (va_cons (ve_isE 0 ex hz hfl List.mem_cons_self (A.tb.kit hc hm (List.mem_of_getElem? (i := 1) rfl)) A.n_isinstance (by rfl) (pe_glob (v := .ref a.C_Closed) (by rfl) A.m_Closed rfl) (fun _ h => h)) (va_cons (ve_isE 0 ex hz hfl List.mem_cons_self (A.tb.kit hc hm (List.mem_of_getElem? (i := 2) rfl)) A.n_isinstance (by rfl) (pe_glob (v := .ref a.C_NoBargain) (by rfl) A.m_NoBargain rfl) (fun _ h => h)) (va_cons (ve_isE 0 ex hz hfl List.mem_cons_self (A.tb.kit hc hm (List.mem_of_getElem? (i := 3) rfl)) A.n_isinstance (by rfl) (pe_glob (v := .ref a.C_NoMember) (by rfl) A.m_NoMember rfl) (fun _ h => h)) va_nil)))))))
    (vss_cons (vs_set (i := 1) sc__law_kinds.nd (ve_add (ve_var 1) (ve_frz (vn_lst (va_cons (ve_isE 0 ex hz hfl List.mem_cons_self (A.tb.kit hc hm (List.mem_of_getElem? (i := 4) rfl)) A.n_isinstance (by rfl) (pe_glob (v := .ref a.C_NoOffer) (by rfl) A.m_NoOffer rfl) (fun _ h => h)) (va_cons (ve_isE 0 ex hz hfl List.mem_cons_self (A.tb.kit hc hm (List.mem_of_getElem? (i := 5) rfl)) A.n_isinstance (by rfl) (pe_glob (v := .ref a.C_NoQuarrel) (by rfl) A.m_NoQuarrel rfl) (fun _ h => h)) (va_cons (ve_isE 0 ex hz hfl List.mem_cons_self (A.tb.kit hc hm (List.mem_of_getElem? (i := 6) rfl)) A.n_isinstance (by rfl) (pe_glob (v := .ref a.C_NoRow) (by rfl) A.m_NoRow rfl) (fun _ h => h)) (va_cons (ve_isE 0 ex hz hfl List.mem_cons_self (A.tb.kit hc hm (List.mem_of_getElem? (i := 7) rfl)) A.n_isinstance (by rfl) (pe_glob (v := .ref a.C_NoSign) (by rfl) A.m_NoSign rfl) (fun _ h => h)) va_nil))))))))
    (vss_cons (vs_set (i := 1) sc__law_kinds.nd (ve_add (ve_var 1) (ve_frz (vn_lst (va_cons (ve_isE 0 ex hz hfl List.mem_cons_self (A.tb.kit hc hm (List.mem_of_getElem? (i := 8) rfl)) A.n_isinstance (by rfl) (pe_glob (v := .ref a.C_NoText) (by rfl) A.m_NoText rfl) (fun _ h => h)) (va_cons (ve_isE 0 ex hz hfl List.mem_cons_self (A.tb.kit hc hm (List.mem_of_getElem? (i := 9) rfl)) A.n_isinstance (by rfl) (pe_glob (v := .ref a.C_NoWay) (by rfl) A.m_NoWay rfl) (fun _ h => h)) (va_cons (ve_isE 0 ex hz hfl List.mem_cons_self (A.tb.kit hc hm (List.mem_of_getElem? (i := 10) rfl)) A.n_isinstance (by rfl) (pe_glob (v := .ref a.C_NotSeen) (by rfl) A.m_NotSeen rfl) (fun _ h => h)) (va_cons (ve_isE 0 ex hz hfl List.mem_cons_self (A.tb.kit hc hm (List.mem_of_getElem? (i := 11) rfl)) A.n_isinstance (by rfl) (pe_glob (v := .ref a.C_NotTheirs) (by rfl) A.m_NotTheirs rfl) (fun _ h => h)) va_nil))))))))
    (vss_cons (vs_set (i := 1) sc__law_kinds.nd (ve_add (ve_var 1) (ve_frz (vn_lst (va_cons (ve_isE 0 ex hz hfl List.mem_cons_self (A.tb.kit hc hm (List.mem_of_getElem? (i := 12) rfl)) A.n_isinstance (by rfl) (pe_glob (v := .ref a.C_NothingLeft) (by rfl) A.m_NothingLeft rfl) (fun _ h => h)) (va_cons (ve_isE 0 ex hz hfl List.mem_cons_self (A.tb.kit hc hm (List.mem_of_getElem? (i := 13) rfl)) A.n_isinstance (by rfl) (pe_glob (v := .ref a.C_Own) (by rfl) A.m_Own rfl) (fun _ h => h)) (va_cons (ve_isE 0 ex hz hfl List.mem_cons_self (A.tb.kit hc hm (List.mem_of_getElem? (i := 14) rfl)) A.n_isinstance (by rfl) (pe_glob (v := .ref a.C_TooMany) (by rfl) A.m_TooMany rfl) (fun _ h => h)) (va_cons (ve_isE 0 ex hz hfl List.mem_cons_self (A.tb.kit hc hm (List.mem_of_getElem? (i := 15) rfl)) A.n_isinstance (by rfl) (pe_glob (v := .ref a.C_Twice) (by rfl) A.m_Twice rfl) (fun _ h => h)) va_nil))))))))
    (vss_cons (vs_set (i := 1) sc__law_kinds.nd (ve_add (ve_var 1) (ve_frz (vn_lst (va_cons (ve_isE 0 ex hz hfl List.mem_cons_self (A.tb.kit hc hm (List.mem_of_getElem? (i := 16) rfl)) A.n_isinstance (by rfl) (pe_glob (v := .ref a.C_Unlike) (by rfl) A.m_Unlike rfl) (fun _ h => h)) (va_cons (ve_isE 0 ex hz hfl List.mem_cons_self ve A.n_isinstance (by rfl) (pe_bltn (v := .ty "ValueError") (by rfl) A.n_ValueError (by decide +kernel) rfl) (fun _ h => h)) va_nil))))))
    (vss_cons (vs_set (i := 2) sc__law_kinds.nd (ve_frz (vn_lst (va_cons (ve_strC e_BadNumber) (va_cons (ve_strC e_Closed) (va_cons (ve_strC e_NoBargain) (va_cons (ve_strC e_NoMember) (va_cons (ve_strC e_NoOffer) (va_cons (ve_strC e_NoQuarrel) (va_cons (ve_strC e_NoRow) (va_cons (ve_strC e_NoSign) (va_cons (ve_strC e_NoText) va_nil))))))))))))
    (vss_cons (vs_set (i := 2) sc__law_kinds.nd (ve_add (ve_var 2) (ve_frz (vn_lst (va_cons (ve_strC e_NoWay) (va_cons (ve_strC e_NotSeen) (va_cons (ve_strC e_NotTheirs) (va_cons (ve_strC e_NothingLeft) (va_cons (ve_strC e_Own) (va_cons (ve_strC e_TooMany) (va_cons (ve_strC e_Twice) (va_cons (ve_strC e_Unlike) (va_cons (ve_strC e_x2b) va_nil)))))))))))))
    (vss_one (vs_ret (vn_dat (ve_join (ve_strC SM.e_x) (ve_frz (vn_compH (own := [("k", 3)]) ⟨p, ⟨hot.1, hot.2⟩, List.mem_cons_self⟩ sc__law_kinds.nd (vih_range1 (by rfl) A.n_range (va_cons ve_int va_nil)) (blkOk_by (own := [("k", 3)]) (N := N__law_kinds) (sc := defScope st__law_kinds) (by decide +kernel)) (fun _ _ _ _ _ => (vg_name (i := 3) sc__law_kinds.nd)) (by decide) (fun _ _ _ _ _ => (vts_one (vt_val (ve_ix (ve_var 1) (ve_var 3))))) (fun _ _ _ _ _ => (ve_ix (ve_var 2) (ve_var 3))))))))))))))))
noncomputable abbrev N__law_quarrel : List Str := ["one", "other", "found"]
theorem sc__law_quarrel : FnScope N__law_quarrel ["one", "other"] (defScope st__law_quarrel) := ⟨rfl, rfl, rfl, by decide +kernel, rfl, by decide +kernel, by decide +kernel⟩
theorem ok__law_quarrel (A : All K w mg a) : FnOk P w K mg base CX0 1 a.f__law_quarrel a.d__law_quarrel ["one", "other"] (spV K Wx0 2 SM.F__law_quarrel) :=
  fn_ok (k := 0) A.F__law_quarrel sc__law_quarrel fun cdv Ar outer s H E hr => by
   have A := A
   exact (vss_cons (vs_if (vt_cmp (op_neD hr.units) ok_neD (ve_tup (va_cons (ve_ix (ve_var 0) ve_int) (va_cons (ve_ix (ve_var 0) ve_int) (va_cons (ve_ix (ve_var 0) ve_int) va_nil)))) (ve_tup (va_cons (ve_ix (ve_var 1) ve_int) (va_cons (ve_ix (ve_var 1) ve_int) (va_cons (ve_ix (ve_var 1) ve_int) va_nil)))) (nomark _)) (vss_one (vs_ret (vn_dat ve_non))) vss_nil)
    (vss_cons (vs_set (i := 2) sc__law_quarrel.nd (ve_add (ve_rep (ve_frz (vn_lst (va_cons (ve_strC e_side) va_nil))) (ve_callTy call_int1 ok_intD (by rfl) A.n_int (by decide +kernel) (va_cons (ve_cmp (op_eqD hr.units) ok_eqD (ve_ix (ve_var 0) ve_int) (ve_ix (ve_var 1) ve_int) (nomark _)) va_nil))) (ve_rep (ve_frz (vn_lst (va_cons (ve_strC e_price) va_nil))) (ve_callTy call_int1 ok_intD (by rfl) A.n_int (by decide +kernel) (va_cons (ve_cmp (op_neD hr.units) ok_neD (ve_ix (ve_var 0) ve_int) (ve_ix (ve_var 1) ve_int) (nomark _)) va_nil)))))
    (vss_one (vs_ret (vn_dat (ve_callTy call_tuple_of ok_tupleD (by rfl) A.n_tuple (by decide +kernel) (va_cons (ve_add (ve_var 2) (ve_rep (ve_frz (vn_lst (va_cons (ve_strC e_count) va_nil))) (ve_callTy call_int1 ok_intD (by rfl) A.n_int (by decide +kernel) (va_cons (ve_cmp (op_neD hr.units) ok_neD (ve_ix (ve_var 0) ve_int) (ve_ix (ve_var 1) ve_int) (nomark _)) va_nil)))) va_nil)))))))
noncomputable abbrev N_quarrel_of : List Str := ["one", "other", "found"]
theorem sc_quarrel_of : FnScope N_quarrel_of ["one", "other"] (defScope st_quarrel_of) := ⟨rfl, rfl, rfl, by decide +kernel, rfl, by decide +kernel, by decide +kernel⟩
theorem ok_quarrel_of (A : All K w mg a) : FnOk P w K mg base (L2N.CX P w) 2 a.f_quarrel_of a.d_quarrel_of ["one", "other"] (spV K (WxR mg) 2 SM.F_quarrel_of) :=
  fn_okR (k := 1) A.F_quarrel_of sc_quarrel_of fun cdv Ar outer s H E hr tk po => by
   have A := A
   exact (vss_cons (vs_if (vt_not (vt_val (ve_frz (vn_call (Ts := [0, 1]) (ok_belong A) (hr.mono (by decide)) rfl A.m_belong A.F_belong.kp A.b_belong (va_cons (ve_var 0) (va_cons (ve_var 1) va_nil)))))) (vss_one (vs_raise rfl tk (A.tb.ex _ _ (List.mem_of_getElem? (i := 16) rfl)) A.m_Unlike (by rfl) SM.e_Unlike)) vss_nil)
    (vss_cons (vs_setN (i := 2) sc_quarrel_of.nd (vn_lst va_nil))
    (vss_cons (vs_if (vt_cmp (op_eqD hr.units) ok_eqD (ve_ix (ve_var 0) ve_int) (ve_ix (ve_var 1) ve_int) (nomark _)) (vss_one (vs_appd (vp_var 2) (vn_dat (ve_strC e_side)))) vss_nil)
    (vss_cons (vs_if (vt_cmp (op_neD hr.units) ok_neD (ve_ix (ve_var 0) ve_int) (ve_ix (ve_var 1) ve_int) (nomark _)) (vss_one (vs_appd (vp_var 2) (vn_dat (ve_strC e_price)))) vss_nil)
    (vss_cons (vs_if (vt_cmp (op_neD hr.units) ok_neD (ve_ix (ve_var 0) ve_int) (ve_ix (ve_var 1) ve_int) (nomark _)) (vss_one (vs_appd (vp_var 2) (vn_dat (ve_strC e_count)))) vss_nil)
    (vss_one (vs_ret (vn_dat (ve_callTy call_tuple_of ok_tupleD (by rfl) A.n_tuple (by decide +kernel) (va_cons (ve_var 2) va_nil))))))))))
noncomputable abbrev N__law_some : List Str := ["bag", "writer", "other", "many", "moment", "found", "k", "side"]
theorem sc__law_some : FnScope N__law_some ["bag", "writer", "other", "many", "moment"] (defScope st__law_some) := ⟨rfl, rfl, rfl, by decide +kernel, rfl, by decide +kernel, by decide +kernel⟩
theorem ok__law_some (A : All K w mg a) : FnOk P w K mg base CX0 2 a.f__law_some a.d__law_some ["bag", "writer", "other", "many", "moment"] (spV K Wx0 5 F__law_some) :=
  fn_ok (k := 1) A.F__law_some sc__law_some fun cdv Ar outer s H E hr => by
   have A := A
   exact (vss_cons (vs_setN (i := 5) sc__law_some.nd (vn_lst va_nil))
    (vss_cons (vs_for PassesOwn.never rfl (vi_range1 (by rfl) A.n_range (va_cons (ve_var 3) va_nil)) (vg_name (i := 6) sc__law_some.nd) (vss_cons (vs_set (i := 7) sc__law_some.nd (ve_ix (ve_frz (vn_lst (va_cons (ve_strC eBought) (va_cons (ve_strC eSold) va_nil)))) (ve_mod (ve_add (ve_callTy call_int1 ok_intD (by rfl) A.n_int (by decide +kernel) (va_cons (ve_cmp op_gt ok_icmp (ve_frz (vn_call (Ts := [0]) (ok__law_take A) (hr.mono (by decide)) rfl A.m__law_take A.F__law_take.kp A.b__law_take (va_cons (ve_var 0) (va_cons ve_int va_nil)))) ve_int (nomark _)) va_nil)) (ve_var 1)) ve_int)))
    (vss_one (vs_appd (vp_var 5) (vn_dat (ve_tup (va_cons (ve_var 1) (va_cons (ve_var 2) (va_cons (ve_var 7) (va_cons (ve_add ve_int (ve_frz (vn_call (Ts := [0]) (ok__law_take A) (hr.mono (by decide)) rfl A.m__law_take A.F__law_take.kp A.b__law_take (va_cons (ve_var 0) (va_cons ve_int va_nil))))) (va_cons (ve_add ve_int (ve_frz (vn_call (Ts := [0]) (ok__law_take A) (hr.mono (by decide)) rfl A.m__law_take A.F__law_take.kp A.b__law_take (va_cons (ve_var 0) (va_cons ve_int va_nil))))) (va_cons (ve_var 4) va_nil))))))))))))
    (vss_one (vs_retV 5))))
noncomputable abbrev N__law_least : List Str := ["ones", "others", "best", "at", "longer", "used", "cost", "rows", "some", "place", "more", "key", "told"]
theorem sc__law_least : FnScope N__law_least ["ones", "others"] (defScope st__law_least) := ⟨rfl, rfl, rfl, by decide +kernel, rfl, by decide +kernel, by decide +kernel⟩
theorem ok__law_least (A : All K w mg a) : FnOk P w K mg base CX0 2 a.f__law_least a.d__law_least ["ones", "others"] (spV K Wx0 2 F__law_least) :=
  fn_ok (k := 1) A.F__law_least sc__law_least fun cdv Ar outer s H E hr => by
   have A := A
   exact (vss_cons (vs_setN (i := 2) sc__law_least.nd (vn_dn1 (hu65 hr) (ve_tup va_nil) (ve_tup (va_cons ve_int (va_cons (ve_frz (vn_lst va_nil)) va_nil)))))
    (vss_cons (vs_for PassesOwn.never rfl (vi_range1 (by rfl) A.n_range (va_cons (ve_callB call_len ok_lenD (by rfl) A.n_len (by decide +kernel) (va_cons (ve_var 0) va_nil)) va_nil)) (vg_name (i := 3) sc__law_least.nd) (vss_cons (vs_setN (i := 4) sc__law_least.nd (vn_dn (T := [])))
    (vss_cons (vs_fzN 2 (vs_for PassesOwn.never rfl (vi_keysN (vp_var 2)) (vg_name (i := 5) sc__law_least.nd) (vss_cons (vs_asg (ve_nget (hu65 hr) (vp_var 2) (ve_var 5)) (vg_tup rfl (vgs_cons (vg_name (i := 6) sc__law_least.nd) (vgs_cons (vg_name (i := 7) sc__law_least.nd) vgs_nil))))
    (vss_cons (vs_setN (i := 8) sc__law_least.nd (vn_lst (va_cons (ve_tup (va_cons (ve_var 5) (va_cons (ve_tup (va_cons (ve_add (ve_var 6) ve_int) (va_cons (ve_var 7) va_nil))) va_nil))) va_nil)))
    (vss_cons (vs_for PassesOwn.never rfl (vi_range1 (by rfl) A.n_range (va_cons (ve_callB call_len ok_lenD (by rfl) A.n_len (by decide +kernel) (va_cons (ve_var 1) va_nil)) va_nil)) (vg_name (i := 9) sc__law_least.nd) (vss_one (vs_if (vt_cmp (op_notInA (hu65 hr)) ok_notInD (ve_var 9) (ve_var 5) rfl) (vss_cons (vs_set (i := 10) sc__law_least.nd (ve_add (ve_var 6) (ve_callB call_len ok_lenD (by rfl) A.n_len (by decide +kernel) (va_cons (ve_frz (vn_call (Ts := []) (ok__law_quarrel A) (hr.mono (by decide)) rfl A.m__law_quarrel A.F__law_quarrel.kp A.b__law_quarrel (va_cons (ve_ix (ve_var 0) (ve_var 3)) (va_cons (ve_ix (ve_var 1) (ve_var 9)) va_nil)))) va_nil))))
    (vss_one (vs_appd (vp_var 8) (vn_dat (ve_tup (va_cons (ve_callTy call_tuple_of ok_tupleD (by rfl) A.n_tuple (by decide +kernel) (va_cons (ve_callB cr_sortTI ok_sortTD (by rfl) A.n_sorted (by decide +kernel) (va_cons (ve_add (ve_var 5) (ve_tup (va_cons (ve_var 9) va_nil))) va_nil)) va_nil)) (va_cons (ve_tup (va_cons (ve_var 10) (va_cons (ve_add (ve_var 7) (ve_frz (vn_lst (va_cons (ve_tup (va_cons (ve_var 3) (va_cons (ve_var 9) va_nil))) va_nil)))) va_nil))) va_nil))))))) vss_nil)))
    (vss_one (vs_fz 8 (vs_for PassesOwn.never rfl (vi_seq (ve_var 8)) (vg_tup rfl (vgs_cons (vg_name (i := 11) sc__law_least.nd) (vgs_cons (vg_name (i := 12) sc__law_least.nd) vgs_nil))) (vss_one (vs_nput (hu65 hr) (ve_callB (cr_min2T rfl (hu65 hr)) ok_min2TD (by rfl) A.n_min (by decide +kernel) (va_cons (ve_var 12) (va_cons (ve_nget2 (hu65 hr) (vp_var 4) (ve_var 11) (ve_var 12)) va_nil))) (vp_var 4) (ve_var 11)))))))))))
    (vss_one (vs_setN (i := 2) sc__law_least.nd (vn_mv 4))))))
    (vss_one (vs_fzN 2 (vs_ret (vn_dat (ve_callB (cr_minT rfl (hu65 hr)) ok_minTD (by rfl) A.n_min (by decide +kernel) (va_cons (ve_frz (vn_comp (own := [("used", 5)]) rfl sc__law_least.nd (vi_keysN (vp_var 2)) (blkOk_by (own := [("used", 5)]) (N := N__law_least) (sc := defScope st__law_least) (by decide +kernel)) (fun _ _ _ _ _ => (vg_name (i := 5) sc__law_least.nd)) (by decide) (fun _ _ _ _ _ => vts_nil) (fun _ _ _ _ _ => (ve_tup (va_cons (ve_add (ve_ix (ve_nget (hu65 hr) (vp_var 2) (ve_var 5)) ve_int) (ve_mul ve_int (ve_sub (ve_callB call_len ok_lenD (by rfl) A.n_len (by decide +kernel) (va_cons (ve_var 1) va_nil)) (ve_callB call_len ok_lenD (by rfl) A.n_len (by decide +kernel) (va_cons (ve_var 5) va_nil))))) (va_cons (ve_ix (ve_nget (hu65 hr) (vp_var 2) (ve_var 5)) ve_int) va_nil)))))) va_nil))))))))
noncomputable abbrev N_fit_from : List Str := ["costs", "at", "left", "known", "cost", "rows", "best", "place", "rest", "other"]
theorem sc_fit_from : FnScope N_fit_from ["costs", "at", "left", "known"] (defScope st_fit_from) := ⟨rfl, rfl, rfl, by decide +kernel, rfl, by decide +kernel, by decide +kernel⟩
theorem ok_fit_from (A : All K w mg a) : ∀ j : Nat, FnOk P w K mg base CX0 (1 + j) a.f_fit_from a.d_fit_from ["costs", "at", "left", "known"] (spV K Wx0 4 (F_fit_from j))
  | 0 => fn_ok (k := 0) A.F_fit_from sc_fit_from fun cdv Ar outer s H E hr => vss_noneM
  | j + 1 => fn_ok (k := 1 + j) A.F_fit_from sc_fit_from fun cdv Ar outer s H E hr => by
   have A := A
   have ih := ok_fit_from A j
   exact (vss_cons (vs_if (vt_cmp (op_eqD hr.units) ok_eqD (ve_var 1) (ve_callB call_len ok_lenD (by rfl) A.n_len (by decide +kernel) (va_cons (ve_var 0) va_nil)) (nomark _)) (vss_one (vs_ret (vn_dat (ve_tup (va_cons (ve_mul (ve_glob (v := .int 2) rfl A.m_ALONE.choose_spec ⟨_, rfl⟩ (fun _ => .int _)) (ve_callB call_len ok_lenD (by rfl) A.n_len (by decide +kernel) (va_cons (ve_var 2) va_nil))) (va_cons (ve_tup va_nil) va_nil)))))) vss_nil)
    (vss_cons (vs_if (vt_nnotin (hu65 hr) (ve_tup (va_cons (ve_var 1) (va_cons (ve_var 2) va_nil))) (vp_var 3)) (vss_cons (vs_asg (ve_frz (vn_call (Ts := [0, 2, 3]) ih (hr.mono (by omega)) rfl A.m_fit_from A.F_fit_from.kp A.b_fit_from (va_cons (ve_var 0) (va_cons (ve_add (ve_var 1) ve_int) (va_cons (ve_var 2) (va_cons (ve_var 3) va_nil)))))) (vg_tup rfl (vgs_cons (vg_name (i := 4) sc_fit_from.nd) (vgs_cons (vg_name (i := 5) sc_fit_from.nd) vgs_nil))))
    (vss_cons (vs_set (i := 6) sc_fit_from.nd (ve_tup (va_cons (ve_add (ve_var 4) (ve_glob (v := .int 2) rfl A.m_ALONE.choose_spec ⟨_, rfl⟩ (fun _ => .int _))) (va_cons (ve_var 5) va_nil))))
    (vss_cons (vs_for PassesOwn.never rfl (vi_seq (ve_var 2)) (vg_name (i := 7) sc_fit_from.nd) (vss_cons (vs_set (i := 8) sc_fit_from.nd (ve_callTy call_tuple_of ok_tupleD (by rfl) A.n_tuple (by decide +kernel) (va_cons (ve_frz (vn_comp (own := [("other", 9)]) rfl sc_fit_from.nd (vi_seq (ve_var 2)) (blkOk_by (own := [("other", 9)]) (N := N_fit_from) (sc := defScope st_fit_from) (by decide +kernel)) (fun _ _ _ _ _ => (vg_name (i := 9) sc_fit_from.nd)) (by decide) (fun _ _ _ _ _ => (vts_one (vt_cmp (op_neD hr.units) ok_neD (ve_var 9) (ve_var 7) (nomark _)))) (fun _ _ _ _ _ => (ve_var 9)))) va_nil)))
    (vss_cons (vs_asg (ve_frz (vn_call (Ts := [0, 8, 3]) ih (hr.mono (by omega)) rfl A.m_fit_from A.F_fit_from.kp A.b_fit_from (va_cons (ve_var 0) (va_cons (ve_add (ve_var 1) ve_int) (va_cons (ve_var 8) (va_cons (ve_var 3) va_nil)))))) (vg_tup rfl (vgs_cons (vg_name (i := 4) sc_fit_from.nd) (vgs_cons (vg_name (i := 5) sc_fit_from.nd) vgs_nil))))
    (vss_one (vs_set (i := 6) sc_fit_from.nd (ve_callB (cr_min2T rfl (hu65 hr)) ok_min2TD (by rfl) A.n_min (by decide +kernel) (va_cons (ve_var 6) (va_cons (ve_tup (va_cons (ve_add (ve_var 4) (ve_ix (ve_ix (ve_var 0) (ve_var 1)) (ve_var 7))) (va_cons (ve_add (ve_tup (va_cons (ve_tup (va_cons (ve_var 1) (va_cons (ve_var 7) va_nil))) va_nil)) (ve_var 5)) va_nil))) va_nil))))))))
    (vss_one (vs_nput (hu65 hr) (ve_var 6) (vp_var 3) (ve_tup (va_cons (ve_var 1) (va_cons (ve_var 2) va_nil)))))))) vss_nil)
    (vss_one (vs_ret (vn_dat (ve_nget (hu65 hr) (vp_var 3) (ve_tup (va_cons (ve_var 1) (va_cons (ve_var 2) va_nil)))))))))
noncomputable abbrev N_best_fit : List Str := ["ones", "others", "one", "other", "costs", "cost", "rows"]
theorem sc_best_fit : FnScope N_best_fit ["ones", "others"] (defScope st_best_fit) := ⟨rfl, rfl, rfl, by decide +kernel, rfl, by decide +kernel, by decide +kernel⟩
theorem ok_best_fit (A : All K w mg a) : FnOk P w K mg base (L2N.CX P w) 14 a.f_best_fit a.d_best_fit ["ones", "others"] (spV K (WxR mg) 2 F_best_fit) :=
  fn_okR (k := 13) A.F_best_fit sc_best_fit fun cdv Ar outer s H E hr tk po => by
   have A := A
   exact (vss_cons (vs_for po rfl (vi_seq (ve_var 0)) (vg_name (i := 2) sc_best_fit.nd) (vss_one (vs_if (vt_not (vt_val (ve_callB (cr_all rfl) ok_allD (by rfl) A.n_all (by decide +kernel) (va_cons (ve_frz (vn_comp (own := [("other", 3)]) rfl sc_best_fit.nd (vi_seq (ve_var 1)) (blkOk_by (own := [("other", 3)]) (N := N_best_fit) (sc := defScope st_best_fit) (by decide +kernel)) (fun _ _ _ _ _ => (vg_name (i := 3) sc_best_fit.nd)) (by decide) (fun _ _ _ _ _ => vts_nil) (fun _ _ _ _ _ => (ve_frz (vn_call (Ts := [2, 3]) (ok_belong A) (hr.mono (by decide)) rfl A.m_belong A.F_belong.kp A.b_belong (va_cons (ve_var 2) (va_cons (ve_var 3) va_nil))))))) va_nil)))) (vss_one (vs_raise rfl tk (A.tb.ex _ _ (List.mem_of_getElem? (i := 16) rfl)) A.m_Unlike (by rfl) SM.e_Unlike)) vss_nil)))
    (vss_cons (vs_setCompV (i := 4) (own := [("one", 2)]) rfl sc_best_fit.nd (vi_seq (ve_var 0)) (blkOk_by (own := [("one", 2)]) (N := N_best_fit) (sc := defScope st_best_fit) (by decide +kernel)) (fun _ _ _ _ _ => (vg_name (i := 2) sc_best_fit.nd)) (by decide) (fun _ _ _ _ _ => vts_nil) (fun _ _ _ _ _ => (ve_frz (vn_comp (own := [("other", 3)]) rfl sc_best_fit.nd (vi_seq (ve_var 1)) (blkOk_by (own := [("other", 3)]) (by kernel_rfl)) (fun _ _ _ _ _ => (vg_name (i := 3) sc_best_fit.nd)) (by decide) (fun _ _ _ _ _ => vts_nil) (fun _ _ _ _ _ => (ve_callB call_len ok_lenD (by rfl) A.n_len (by decide +kernel) (va_cons (ve_frz (vn_callR (Ts := [2, 3]) (ok_quarrel_of A) (hr.mono (by decide)) takesV0 rfl A.m_quarrel_of A.F_quarrel_of.kp A.b_quarrel_of (va_cons (ve_var 2) (va_cons (ve_var 3) va_nil)))) va_nil)))))))
    (vss_cons (vs_asg (ve_frz (vn_callX (Ts := [4]) (ok_fit_from A 12) (hr.mono (by decide)) rfl A.m_fit_from A.F_fit_from.kp A.b_fit_from (vax_cons (ve_var 4) (vax_cons ve_int (vax_cons (ve_tuprng rfl (by rfl) A.n_tuple (by rfl) A.n_range (ve_callB call_len ok_lenD (by rfl) A.n_len (by decide +kernel) (va_cons (ve_var 1) va_nil))) (vax_last (vn_dn (T := [])))))))) (vg_tup rfl (vgs_cons (vg_name (i := 5) sc_best_fit.nd) (vgs_cons (vg_name (i := 6) sc_best_fit.nd) vgs_nil))))
    (vss_one (vs_ret (vn_tupT (vns_cons (vn_dat (ve_var 5)) (vns_cons (vn_listD (by rfl) A.n_list (ve_var 6)) vns_nil))))))))
noncomputable abbrev N__law_asked : List Str := ["ones", "others", "found", "kind", "e"]
theorem sc__law_asked : FnScope N__law_asked ["ones", "others"] (defScope st__law_asked) := ⟨rfl, rfl, rfl, by decide +kernel, rfl, by decide +kernel, by decide +kernel⟩
theorem ok__law_asked (A : All K w mg a) : FnOk P w K mg base CX0 15 a.f__law_asked a.d__law_asked ["ones", "others"] (spV K Wx0 2 F__law_asked) :=
  fn_ok (k := 14) A.F__law_asked sc__law_asked fun cdv Ar outer s H E hr => by
   have A := A
   exact (vss_cons (vs_set (i := 2) sc__law_asked.nd ve_non)
    (vss_cons (vs_set (i := 3) sc__law_asked.nd (ve_strC e_x))
    (vss_cons (vs_tryK (j := 4) (i := 3) sc__law_asked.nd (ok__law_kinds A) (hr.mono (by decide)) A.m__law_kinds (by rfl) A.F__law_kinds.kp A.b__law_kinds (by rfl) A.m_HallError (A.tb.tryF rfl) (fun W pn xe tk po => (vss_one (vs_setN (i := 2) sc__law_asked.nd (vn_callR (Ts := [0, 1]) (ok_best_fit A) (hr.mono (by decide)) tk rfl A.m_best_fit A.F_best_fit.kp A.b_best_fit (va_cons (ve_var 0) (va_cons (ve_var 1) va_nil)))))))
    (vss_one (vs_ret (vn_if (vt_cmp (op_eqD hr.units) ok_eqD (ve_var 3) (ve_strC e_x) (nomark _)) (vn_mv 2) (vn_dat (ve_var 3))))))))
noncomputable abbrev N_law : List Str := ["script", "k", "bag", "most", "ones", "others", "handed", "turn", "found", "odd"]
theorem sc_law : FnScope N_law ["script"] (defScope st_law) := ⟨rfl, rfl, rfl, by decide +kernel, rfl, by decide +kernel, by decide +kernel⟩
theorem ok_law (A : All K w mg a) : FnOk P w K mg base CX0 16 a.f_law a.d_law ["script"] (spV K Wx0 1 F_law) :=
  fn_ok (k := 15) A.F_law sc_law fun cdv Ar outer s H E hr => by
   have A := A
   exact (vss_cons (vs_for PassesOwn.never rfl (vi_range1 (by rfl) A.n_range (va_cons (ve_add ve_int (ve_callB (call_min2 rfl) ok_min2D (by rfl) A.n_min (by decide +kernel) (va_cons (ve_callB call_len ok_lenD (by rfl) A.n_len (by decide +kernel) (va_cons (ve_var 0) va_nil)) (va_cons ve_int va_nil)))) va_nil)) (vg_name (i := 1) sc_law.nd) (vss_cons (vs_setN (i := 2) sc_law.nd (vn_call (Ts := [0, 1]) (ok__law_bag A) (hr.mono (by decide)) rfl A.m__law_bag A.F__law_bag.kp A.b__law_bag (va_cons (ve_var 0) (va_cons (ve_var 1) va_nil))))
    (vss_cons (vs_set (i := 3) sc_law.nd (ve_ix (ve_frz (vn_lst (va_cons ve_int (va_cons ve_int (va_cons ve_int (va_cons ve_int va_nil)))))) (ve_frz (vn_call (Ts := [2]) (ok__law_take A) (hr.mono (by decide)) rfl A.m__law_take A.F__law_take.kp A.b__law_take (va_cons (ve_var 2) (va_cons ve_int va_nil))))))
    (vss_cons (vs_set (i := 4) sc_law.nd (ve_frz (vn_call (Ts := [2]) (ok__law_some A) (hr.mono (by decide)) rfl A.m__law_some A.F__law_some.kp A.b__law_some (va_cons (ve_var 2) (va_cons ve_int (va_cons ve_int (va_cons (ve_frz (vn_call (Ts := [2, 3]) (ok__law_take A) (hr.mono (by decide)) rfl A.m__law_take A.F__law_take.kp A.b__law_take (va_cons (ve_var 2) (va_cons (ve_var 3) va_nil)))) (va_cons ve_int va_nil))))))))
    (vss_cons (vs_set (i := 5) sc_law.nd (ve_frz (vn_call (Ts := [2]) (ok__law_some A) (hr.mono (by decide)) rfl A.m__law_some A.F__law_some.kp A.b__law_some (va_cons (ve_var 2) (va_cons ve_int (va_cons ve_int (va_cons (ve_frz (vn_call (Ts := [2, 3]) (ok__law_take A) (hr.mono (by decide)) rfl A.m__law_take A.F__law_take.kp A.b__law_take (va_cons (ve_var 2) (va_cons (ve_var 3) va_nil)))) (va_cons ve_int va_nil))))))))
    (vss_cons (vs_set (i := 6) sc_law.nd (ve_tup (va_cons (ve_callTy call_list_of ok_listD (by rfl) A.n_list (by decide +kernel) (va_cons (ve_var 4) va_nil)) (va_cons (ve_callTy call_list_of ok_listD (by rfl) A.n_list (by decide +kernel) (va_cons (ve_var 5) va_nil)) va_nil))))
    (vss_cons (vs_for PassesOwn.never rfl (vi_range1 (by rfl) A.n_range (va_cons ve_int va_nil)) (vg_name (i := 7) sc_law.nd) (vss_cons (vs_setN (i := 8) sc_law.nd (vn_call (Ts := []) (ok__law_asked A) (hr.mono (by decide)) rfl A.m__law_asked A.F__law_asked.kp A.b__law_asked (va_cons (ve_ix (ve_var 6) ve_int) (va_cons (ve_ix (ve_var 6) ve_int) va_nil))))
    (vss_cons (vs_if (vw_pt (vw_or (vt_not (vt_val (ve_isiP (B := .tuple) (vp_var 8) (by rfl) A.n_isinstance (by rfl) A.n_tuple (by decide +kernel)))) (vw_or (vt_cmpL (op_neD hr.units) ok_neD (vp_var 8) (ve_frz (vn_call (Ts := [4, 5]) (ok__law_least A) (hr.mono (by decide)) rfl A.m__law_least A.F__law_least.kp A.b__law_least (va_cons (ve_var 4) (va_cons (ve_var 5) va_nil)))) (hm := nomark _)) (vw_or1 (vt_cmp (op_neD hr.units) ok_neD (ve_var 6) (ve_tup (va_cons (ve_var 4) (va_cons (ve_var 5) va_nil))) (nomark _)))))) (vss_one (vs_ret (vn_dat ve_bl))) vss_nil)
    (vss_one (vs_appd (vp_ix (vp_var 8) ve_int) (vn_dat ve_non))))))
    (vss_cons (vs_set (i := 9) sc_law.nd (ve_ix (ve_frz (vn_lst (va_cons (ve_tup (va_cons ve_int (va_cons ve_int (va_cons (ve_strC eSold) (va_cons ve_int (va_cons ve_int (va_cons ve_int va_nil))))))) (va_cons (ve_tup (va_cons ve_int (va_cons ve_int (va_cons (ve_strC eSold) (va_cons ve_int (va_cons ve_int (va_cons ve_int va_nil))))))) (va_cons (ve_tup (va_cons ve_int (va_cons ve_int (va_cons (ve_strC eBought) (va_cons ve_int (va_cons ve_int (va_cons ve_int va_nil))))))) va_nil))))) (ve_frz (vn_call (Ts := [2]) (ok__law_take A) (hr.mono (by decide)) rfl A.m__law_take A.F__law_take.kp A.b__law_take (va_cons (ve_var 2) (va_cons ve_int va_nil))))))
    (vss_one (vs_if (vw_pt (vw_and (vt_cmp (op_neD hr.units) ok_neD (ve_var 4) (ve_frz (vn_lst va_nil)) (nomark _)) (vw_and1 (vt_cmp (op_neD hr.units) ok_neD (ve_frz (vn_call (Ts := [4]) (ok__law_asked A) (hr.mono (by decide)) rfl A.m__law_asked A.F__law_asked.kp A.b__law_asked (va_cons (ve_var 4) (va_cons (ve_add (ve_cut (ve_var 5) vo_none (vo_some ve_int)) (ve_frz (vn_lst (va_cons (ve_var 9) va_nil)))) va_nil)))) (ve_strC e_x556e6c696b652b) (nomark _))))) (vss_one (vs_ret (vn_dat ve_bl))) vss_nil))))))))))
    (vss_one (vs_ret (vn_dat ve_bl))))
end
end K09

end

section
set_option Elab.async false
set_option linter.all false
set_option maxRecDepth 100000
namespace VL
open PySem PySem.Spec PyProof.Rows L2
section
variable {ρ : Rho}
@[simp] theorem okM_nMv {i : Nat} {Q : Tr → Rho → Prop} : okM (nMv i ρ) Q ↔ okO (match ρ[i]? with
  | some (.own .free t) => some t
  | _ => none) fun t => Q t (ρ.set i (.own .free .hole)) := by
  unfold nMv
  cases h : ρ[i]? with
  | none => simp
  | some s =>
    cases s with
    | own m t => cases m <;> simp
    | _ => simp
noncomputable def flatAt (ρ : Rho) (r : Nat × List Nat) : Option (List PyData) := match treeAt ρ r with
  | some (.lst ts) => flat ts
  | _ => none
@[simp] theorem okM_cCutP {Ts : List Nat} {f : M (Nat × List Nat)} {fl fh : M (Option Int)} {Q : Rv → Rho → Prop} : okM (cCutP Ts f fl fh ρ) Q ↔ okM (f ρ) fun r ρ1 => okM (fl ρ1) fun lo ρ2 => okM (fh ρ2) fun hi ρ3 => Ts.contains r.1 = false ∧ okO (flatAt ρ3 r) fun ds => okO (cutD (.list ds) lo hi) fun z => Q (.d z) ρ3 := by
  unfold cCutP
  simp only [okM_bnd]
  have e : ∀ (r : Nat × List Nat) (lo hi : Option Int) (ρ3 : Rho), okM (cutP1 Ts r lo hi ρ3) Q ↔ Ts.contains r.1 = false ∧ okO (flatAt ρ3 r) fun ds => okO (cutD (.list ds) lo hi) fun z => Q (.d z) ρ3 := fun r lo hi ρ3 => by
    unfold cutP1 flatAt
    by_cases h : Ts.contains r.1 = true
    · rw [if_pos h, h]; simp
    · rw [if_neg h]
      have h' : Ts.contains r.1 = false := by simpa using h
      rw [h']
      simp only [true_and]
      cases hq : treeAt ρ3 r with
      | none => simp
      | some t =>
        cases t with
        | lst ts =>
          simp only
          cases q : flat ts with
          | none => simp
          | some ds =>
            simp only [okO_some]
            cases hz : cutD (.list ds) lo hi <;> simp
        | _ => simp
  simp only [e]
@[simp] theorem okM_cIsiP {B : BT} {f : M (Nat × List Nat)} {Q : Rv → Rho → Prop} : okM (cIsiP B f ρ) Q ↔ okM (f ρ) fun r ρ1 => okO ((treeAt ρ1 r).bind Tr.toD) fun d => okO (isiD B d) fun b => Q (.d (.bool b)) ρ1 := by
  unfold cIsiP
  rw [okM_bnd]
  refine okM_congr fun r ρ1 => ?_
  cases (treeAt ρ1 r).bind Tr.toD with
  | none => simp
  | some d => cases h : isiD B d <;> simp [h]
end
end VL

end

section
set_option Elab.async false
set_option linter.all false
set_option maxRecDepth 100000
namespace VL
open PySem PySem.Spec PyProof.Rows L2
section
variable {ρ : Rho} {P : Out → Prop}
noncomputable def fldIx (c f : Str) : Option Tr → Option Nat
  | some (.ins c' fs) => if c' = c then keyIx f fs else none
  | _ => none
@[simp] theorem okM_pFld {c f : Str} {g : M (Nat × List Nat)} {Q : Nat × List Nat → Rho → Prop} : okM (pFld c f g ρ) Q ↔ okM (g ρ) fun r ρ1 => okO (fldIx c f (treeAt ρ1 r)) fun j => Q (r.1, r.2 ++ [j]) ρ1 := by
  unfold pFld
  rw [okM_bnd]
  refine okM_congr fun r ρ1 => ?_
  unfold fldIx
  cases h : treeAt ρ1 r with
  | none => simp
  | some t =>
    cases t with
    | ins c' fs =>
      simp only
      by_cases e : c' = c
      · rw [if_pos e, if_pos e]
        cases keyIx f fs <;> simp
      · rw [if_neg e, if_neg e]; simp
    | _ => simp
@[simp] theorem okM_meth {c m : Str} {Ts : List Nat} {n i : Nat} {G : Fn} {fs : M (List Rv)} {Q : Tr → Rho → Prop} : okM (nMeth c m Ts n G i fs ρ) Q ↔ isCls c m ρ i = true ∧ okM (fs ρ) fun xs ρ1 => okM (callR Ts n G (.o i :: xs) ρ1) Q := by
  unfold nMeth
  by_cases h : isCls c m ρ i = true
  · rw [if_pos h, okM_bnd]; simp [h]
  · rw [if_neg h]; simp [h]
@[simp] theorem okM_dictC {f : M (Nat × List Nat)} {Q : Tr → Rho → Prop} : okM (nDictC f ρ) Q ↔ okM (f ρ) fun r ρ1 => okO (match treeAt ρ1 r with
  | some (.dk kvs) => dats kvs
  | _ => none) fun ds => Q (.dk (toT ds)) ρ1 := by
  unfold nDictC
  rw [okM_bnd]
  refine okM_congr fun r ρ1 => ?_
  cases h : treeAt ρ1 r with
  | none => simp
  | some t =>
    cases t with
    | dk kvs => simp only; cases dats kvs <;> simp
    | _ => simp
@[simp] theorem okM_listC {f : M (Nat × List Nat)} {Q : Tr → Rho → Prop} : okM (nListC f ρ) Q ↔ okM (f ρ) fun r ρ1 => okO (flatAt ρ1 r) fun ds => Q (.lst (ds.map .dat)) ρ1 := by
  unfold nListC flatAt
  rw [okM_bnd]
  refine okM_congr fun r ρ1 => ?_
  cases h : treeAt ρ1 r with
  | none => simp
  | some t =>
    cases t with
    | lst ts => simp only; cases flat ts <;> simp
    | _ => simp
@[simp] theorem okM_copyDs {v : Nat} {f : M (Nat × List Nat)} {Q : Tr → Rho → Prop} : okM (nCopyDs v f ρ) Q ↔ okM (f ρ) fun r ρ1 => okO (match treeAt ρ1 r with
  | some (.lst ts) => copies ts
  | _ => none) fun dss => (v < ρ1.length ∧ small dss.length = true) ∧ Q (.lst (copyT dss)) ρ1 := by
  unfold nCopyDs
  rw [okM_bnd]
  refine okM_congr fun r ρ1 => ?_
  cases h : treeAt ρ1 r with
  | none => simp
  | some t =>
    cases t with
    | lst ts =>
      simp only
      cases copies ts with
      | none => simp
      | some dss =>
        simp only [okO_some]
        by_cases h : v < ρ1.length ∧ small dss.length = true
        · rw [if_pos (by simpa using h)]; simp only [okM_ok, h, true_and]
        · rw [if_neg (by simpa using h)]
          simp only [okM_none, false_iff]
          exact fun z => h z.1
    | _ => simp
@[simp] theorem okM_mvP {Ts : List Nat} {f : M (Nat × List Nat)} {Q : Tr → Rho → Prop} : okM (nMvP Ts f ρ) Q ↔ okM (f ρ) fun r ρ1 => (Ts.contains r.1 = true ∧ modeOk ρ1 r.1 = true) ∧ okO (treeAt ρ1 r) fun t => Q t (putAt ρ1 r .hole) := by
  unfold nMvP
  rw [okM_bnd]
  refine okM_congr fun r ρ1 => ?_
  rw [← Bool.and_eq_true]
  split
  · rename_i h
    simp only [h, true_and]
    cases treeAt ρ1 r <;> simp
  · rename_i h
    simp only [okM_none, false_iff]
    exact fun z => h z.1
@[simp] theorem okM_popT {Ts : List Nat} {f : M (Nat × List Nat)} {Q : Tr → Rho → Prop} : okM (nPopT Ts f ρ) Q ↔ okM (f ρ) fun r ρ1 => (Ts.contains r.1 = true ∧ modeOk ρ1 r.1 = true) ∧ okO (match treeAt ρ1 r with
  | some (.lst ts) => ts.getLast?.map fun t => (ts, t)
  | _ => none) fun p => Q p.2 (putAt ρ1 r (.lst p.1.dropLast)) := by
  unfold nPopT
  rw [okM_bnd]
  refine okM_congr fun r ρ1 => ?_
  rw [← Bool.and_eq_true]
  split
  · rename_i h
    simp only [h, true_and]
    cases h : treeAt ρ1 r with
    | none => simp
    | some t =>
      cases t with
      | lst ts => simp only; cases ts.getLast? <;> simp
      | _ => simp
  · rename_i h
    simp only [okM_none, false_iff]
    exact fun z => h z.1
@[simp] theorem okM_cEmp {f : M (Nat × List Nat)} {g : M Tr} {Q : Bool → Rho → Prop} : okM (cEmp f g ρ) Q ↔ okM (f ρ) fun r ρ1 => okM (g ρ1) fun tn ρ2 => okO (match treeAt ρ2 r, tn with
  | some (.lst ts), .lst [] => some ts.isEmpty
  | _, _ => none) fun b => Q b ρ2 := by
  unfold cEmp
  rw [okM_bnd]
  refine okM_congr fun r ρ1 => ?_
  rw [okM_bnd]
  refine okM_congr fun tn ρ2 => ?_
  split <;> simp_all
@[simp] theorem okM_lenP {f : M (Nat × List Nat)} {Q : Rv → Rho → Prop} : okM (cLenP f ρ) Q ↔ okM (f ρ) fun r ρ1 => okO (match treeAt ρ1 r with
  | some (.lst ts) => some ts.length
  | _ => none) fun n => Q (.d (.int n)) ρ1 := by
  unfold cLenP
  rw [okM_bnd]
  refine okM_congr fun r ρ1 => ?_
  cases h : treeAt ρ1 r with
  | none => simp
  | some t => cases t <;> simp
@[simp] theorem okM_lNil {Q : List LA → Rho → Prop} : okM (lNil ρ) Q ↔ Q [] ρ := okM_ok
@[simp] theorem okM_lD {f : M Rv} {g : M (List LA)} {Q : List LA → Rho → Prop} : okM (lD f g ρ) Q ↔ okM (f ρ) fun x ρ1 => okM (g ρ1) fun ls ρ2 => okO (rvd x) fun d => Q (.d d :: ls) ρ2 := by
  unfold lD
  rw [okM_bnd]
  refine okM_congr fun x ρ1 => ?_
  rw [okM_bnd]
  refine okM_congr fun ls ρ2 => ?_
  cases x <;> simp [rvd]
@[simp] theorem okM_lP {f : M (Nat × List Nat)} {g : M (List LA)} {Q : List LA → Rho → Prop} : okM (lP f g ρ) Q ↔ okM (f ρ) fun r ρ1 => okM (g ρ1) fun ls ρ2 => Q (.p r :: ls) ρ2 := by
  unfold lP
  simp only [okM_bnd, okM_ret]
@[simp] theorem okM_dtNil {Q : List (Key × Tr) → Rho → Prop} : okM (dtNil ρ) Q ↔ Q [] ρ := okM_ok
@[simp] theorem okM_dtCons {k : Key} {f : M Tr} {g : M (List (Key × Tr))} {Q : List (Key × Tr) → Rho → Prop} : okM (dtCons k f g ρ) Q ↔ okM (f ρ) fun t ρ1 => okM (g ρ1) fun ts ρ2 => Q ((k, t) :: ts) ρ2 := by
  unfold dtCons
  simp only [okM_bnd, okM_ret]
@[simp] theorem okM_disp {f : M (List (Key × Tr))} {Q : Tr → Rho → Prop} : okM (nDisp f ρ) Q ↔ okM (f ρ) fun kts ρ1 => (kts.length ≤ 15 ∧ (kts.map (·.1)).Nodup) ∧ Q (.dk kts) ρ1 := by
  unfold nDisp
  rw [okM_bnd]
  refine okM_congr fun kts ρ1 => ?_
  by_cases h : kts.length ≤ 15 ∧ (kts.map (·.1)).Nodup
  · rw [if_pos (by simpa using h)]; simp [h]
  · rw [if_neg (by simpa using h)]
    simp only [okM_none, false_iff]
    exact fun z => h z.1
end
end VL

end

section
set_option Elab.async false
set_option linter.all false
set_option maxRecDepth 100000
namespace VR
open PySem PySem.Spec PyProof.Rows L2 VL
noncomputable def cvS (i : Nat) (ρ : Rho) : Option Sl → Option (Er Rv)
  | some (.val d) => some (.ok (.d d) ρ)
  | some (.own _ (.dat d)) => some (.ok (.d d) ρ)
  | some (.own _ _) => some (.ok (.o i) ρ)
  | _ => none
theorem ap_cVar {i : Nat} {ρ : Rho} : cVar i ρ = cvS i ρ ρ[i]? := rfl
section
variable {i : Nat} {ρ : Rho} {m : Md}
theorem cv_val {d : PyData} : cvS i ρ (some (.val d)) = some (.ok (.d d) ρ) := rfl
theorem cv_dat {d : PyData} : cvS i ρ (some (.own m (.dat d))) = some (.ok (.d d) ρ) := rfl
theorem cv_tup {ts : List Tr} : cvS i ρ (some (.own m (.tup ts))) = some (.ok (.o i) ρ) := rfl
theorem cv_lst {ts : List Tr} : cvS i ρ (some (.own m (.lst ts))) = some (.ok (.o i) ρ) := rfl
theorem cv_dk {ts : List (Key × Tr)} : cvS i ρ (some (.own m (.dk ts))) = some (.ok (.o i) ρ) := rfl
end
theorem mrg1_val {d : PyData} {o : Option Sl} : mrg1 (.val d) o = .val d := by cases o <;> rfl
theorem mrg1_own {m m' : Md} {t t' : Tr} : mrg1 (.own m t) (some (.own m' t')) = .own m'.unb t' := rfl
theorem mrg_nil {os : List Sl} : mrg [] os = [] := rfl
theorem mrg_cons {a : Sl} {as os : List Sl} : mrg (a :: as) os = mrg1 a os.head? :: mrg as os.tail := rfl
theorem wb_ds (ds : List PyData) {ρ : Rho} {os : List Sl} : wb ρ (ds.map .d) os = ρ := by
  refine List.ext_getElem? fun j => ?_
  rw [wb_get, pure_2]
  cases ρ[j]? <;> rfl
section
variable {ρ : Rho} {os : List Sl} {a b c d e f : PyData}
theorem wb_d0 : wb ρ [] os = ρ := wb_ds []
theorem wb_d1 : wb ρ [.d a] os = ρ := wb_ds [a]
theorem wb_d2 : wb ρ [.d a, .d b] os = ρ := wb_ds [a, b]
theorem wb_d3 : wb ρ [.d a, .d b, .d c] os = ρ := wb_ds [a, b, c]
theorem wb_d4 : wb ρ [.d a, .d b, .d c, .d d] os = ρ := wb_ds [a, b, c, d]
theorem wb_d5 : wb ρ [.d a, .d b, .d c, .d d, .d e] os = ρ := wb_ds [a, b, c, d, e]
end
theorem backOk_nil {os : List Sl} : backOk [] os = true := by cases os <;> rfl
theorem backOk_val {d : PyData} {s : Sl} {as os : List Sl} : backOk (.val d :: as) (s :: os) = backOk as os := rfl
theorem backOk_own {m m' : Md} {t t' : Tr} {as os : List Sl} : backOk (.own m t :: as) (.own m' t' :: os) = backOk as os := rfl
theorem der_d {ρ : Rho} {d : PyData} : der ρ (.d d) = some d := rfl
theorem derS_d {ρ : Rho} {d : PyData} : derS ρ (.d d) = some d := rfl
theorem argSl_d {ρ : Rho} {d : PyData} : argSl ρ (.d d) = some (.val d) := rfl
theorem kd_str {w : Str} : keyD (.str w) = some (.inr w) := rfl
theorem kd_int {i : Int} : keyD (.int i) = some (.inl i) := rfl
theorem ixN_nat {m n : Nat} (h : n < m) : ixN m (n : Int) = some n := by
  unfold ixN
  simp
  omega
theorem eqI {a b : Int} : eqD (.int a) (.int b) = some (decide (a = b)) := by
  show (if SeqAt.shaped (.int a) && SeqAt.shaped (.int b) then some (PyData.eqv (.int a) (.int b)) else none) = _
  rw [shaped_int, shaped_int]
  show some (a == b) = _
  congr 1
theorem neI {a b : Int} : neD (.int a) (.int b) = some (!decide (a = b)) := by
  show (if SeqAt.shaped (.int a) && SeqAt.shaped (.int b) then some (!PyData.eqv (.int a) (.int b)) else none) = _
  rw [shaped_int, shaped_int]
  show some (!(a == b)) = _
  congr 2
theorem ltI {a b : Int} : ltD (.int a) (.int b) = some (decide (a < b)) := rfl
theorem leI {a b : Int} : leD (.int a) (.int b) = some (decide (a ≤ b)) := rfl
theorem gtI {a b : Int} : gtD (.int a) (.int b) = some (decide (a > b)) := rfl
theorem geI {a b : Int} : geD (.int a) (.int b) = some (decide (a ≥ b)) := rfl
theorem addI {a b : Int} : addD (.int a) (.int b) = some (.int (a + b)) := rfl
theorem subtI {a b : Int} : subtD (.int a) (.int b) = some (.int (a - b)) := rfl
section
variable {x0 x1 x2 x3 x4 x5 x6 x7 : PyData} {xs : List PyData}
theorem sub0 : subD (.tuple (x0 :: xs)) (.int 0) = some x0 := by
  show atI (x0 :: xs) 0 = _
  unfold atI
  have : ixN (x0 :: xs).length 0 = some 0 := ixN_nat (n := 0) (by simp)
  rw [this]; rfl
theorem sub1 : subD (.tuple (x0 :: x1 :: xs)) (.int 1) = some x1 := by
  show atI (x0 :: x1 :: xs) 1 = _
  unfold atI
  have : ixN (x0 :: x1 :: xs).length 1 = some 1 := ixN_nat (n := 1) (by simp)
  rw [this]; rfl
theorem sub2 : subD (.tuple (x0 :: x1 :: x2 :: xs)) (.int 2) = some x2 := by
  show atI (x0 :: x1 :: x2 :: xs) 2 = _
  unfold atI
  have : ixN (x0 :: x1 :: x2 :: xs).length 2 = some 2 := ixN_nat (n := 2) (by simp)
  rw [this]; rfl
theorem sub3 : subD (.tuple (x0 :: x1 :: x2 :: x3 :: xs)) (.int 3) = some x3 := by
  show atI (x0 :: x1 :: x2 :: x3 :: xs) 3 = _
  unfold atI
  have : ixN (x0 :: x1 :: x2 :: x3 :: xs).length 3 = some 3 := ixN_nat (n := 3) (by simp)
  rw [this]; rfl
theorem sub4 : subD (.tuple (x0 :: x1 :: x2 :: x3 :: x4 :: xs)) (.int 4) = some x4 := by
  show atI (x0 :: x1 :: x2 :: x3 :: x4 :: xs) 4 = _
  unfold atI
  have : ixN (x0 :: x1 :: x2 :: x3 :: x4 :: xs).length 4 = some 4 := ixN_nat (n := 4) (by simp)
  rw [this]; rfl
theorem sub5 : subD (.tuple (x0 :: x1 :: x2 :: x3 :: x4 :: x5 :: xs)) (.int 5) = some x5 := by
  show atI (x0 :: x1 :: x2 :: x3 :: x4 :: x5 :: xs) 5 = _
  unfold atI
  have : ixN (x0 :: x1 :: x2 :: x3 :: x4 :: x5 :: xs).length 5 = some 5 := ixN_nat (n := 5) (by simp)
  rw [this]; rfl
end
theorem sm0 : small 0 = true := small_of (by decide)
theorem sm1 : small 1 = true := small_of (by decide)
theorem sm2 : small 2 = true := small_of (by decide)
theorem sm3 : small 3 = true := small_of (by decide)
theorem sm4 : small 4 = true := small_of (by decide)
theorem sm5 : small 5 = true := small_of (by decide)
theorem sm6 : small 6 = true := small_of (by decide)
theorem sm7 : small 7 = true := small_of (by decide)
theorem sm8 : small 8 = true := small_of (by decide)
theorem sm9 : small 9 = true := small_of (by decide)
theorem pref {p q : List Nat} : p.isPrefixOf (p ++ q) = true := List.isPrefixOf_iff_prefix.mpr ⟨q, rfl⟩
theorem pref0 {p : List Nat} : p.isPrefixOf p = true := List.isPrefixOf_iff_prefix.mpr ⟨[], by simp⟩
theorem toD_d {d : PyData} : Tr.toD (.dat d) = some d := rfl
end VR

end

section
set_option Elab.async false
set_option linter.all false
set_option maxRecDepth 100000
namespace VR
open PySem PySem.Spec PyProof.Rows L2 VL
theorem ap_bnd {α β : Type} {f : M α} {k : α → M β} {ρ : Rho} : bnd f k ρ = (fun ρ => match f ρ with
  | some (.ok a ρ1) => k a ρ1
  | some (.ex c ρ1) => some (.ex c ρ1)
  | none => none) ρ := rfl
theorem ap_ret {α : Type} {a : α} {ρ : Rho} : VL.ret a ρ = (fun ρ => some (.ok a ρ)) ρ := rfl
theorem ap_cD {x : PyData} {ρ : Rho} : cD x ρ = (VL.ret (.d x)) ρ := rfl
theorem ap_cDGet {T2 : List Nat} {f : M (Nat × List Nat)} {fk : M Rv} {ρ : Rho} : cDGet T2 f fk ρ = (bnd f fun r => bnd fk (dGet1 T2 r)) ρ := rfl
theorem ap_dGet1 {T2 : List Nat} {r : Nat × List Nat} {y : Rv} {ρ : Rho} : dGet1 T2 r y ρ = (fun ρ => if T2.contains r.1 then none else match y, treeAt ρ r with
  | .d d, some t => (match dictAt t d with
    | some (some z) => some (.ok (.d z) ρ)
    | _ => none)
  | _, _ => none) ρ := rfl
theorem ap_cBin {g : PyData → PyData → Option PyData} {fa fb : M Rv} {ρ : Rho} : cBin g fa fb ρ = (bnd fa fun x => bnd fb fun y => bin1 g x y) ρ := rfl
theorem ap_bin1 {g : PyData → PyData → Option PyData} {x y : Rv} {ρ : Rho} : bin1 g x y ρ = (fun ρ => match derS ρ x, derS ρ y with
  | some a, some b => (match g a b with
    | some z => some (.ok (.d z) ρ)
    | none => none)
  | _, _ => none) ρ := rfl
theorem ap_cCmp {g : PyData → PyData → Option Bool} {fa fb : M Rv} {ρ : Rho} : cCmp g fa fb ρ = (bnd fa fun x => bnd fb fun y => binD g x y) ρ := rfl
theorem ap_binD {g : PyData → PyData → Option Bool} {x y : Rv} {ρ : Rho} : binD g x y ρ = (fun ρ => match der ρ x, der ρ y with
  | some a, some b => (match g a b with
    | some z => some (.ok z ρ)
    | none => none)
  | _, _ => none) ρ := rfl
theorem ap_cOf {f : M Bool} {ρ : Rho} : cOf f ρ = (bnd f fun b => VL.ret (.d (.bool b))) ρ := rfl
theorem ap_cChain {g g' : PyData → PyData → Option Bool} {fa fb fc : M Rv} {ρ : Rho} : cChain g g' fa fb fc ρ = (bnd fa fun x => bnd fb fun y => bnd (binD g x y) fun k => if k then bnd fc fun z => binD g' y z else VL.ret false) ρ := rfl
theorem ap_cTest {f : M Rv} {ρ : Rho} : cTest f ρ = (bnd f fun x => fun ρ => match asB ρ x with
  | some b => some (.ok b ρ)
  | none => none) ρ := rfl
theorem ap_cNot {f : M Bool} {ρ : Rho} : cNot f ρ = (bnd f fun b => VL.ret (!b)) ρ := rfl
theorem ap_cAnd {f g : M Bool} {ρ : Rho} : cAnd f g ρ = (bnd f fun b => if b then g else VL.ret false) ρ := rfl
theorem ap_cOr {f g : M Bool} {ρ : Rho} : cOr f g ρ = (bnd f fun b => if b then VL.ret true else g) ρ := rfl
theorem ap_cAndV {f : M Rv} {g : M Rv} {ρ : Rho} : cAndV f g ρ = (bnd (cTest f) fun b => if b then g else VL.ret (.d (.bool false))) ρ := rfl
theorem ap_cOrV {f : M Rv} {g : M Rv} {ρ : Rho} : cOrV f g ρ = (bnd (cTest f) fun b => if b then VL.ret (.d (.bool true)) else g) ρ := rfl
theorem ap_cNotV {f : M Rv} {ρ : Rho} : cNotV f ρ = (bnd (cTest f) fun b => VL.ret (.d (.bool (!b)))) ρ := rfl
theorem ap_cIf {α : Type} {c : M Bool} {f g : M α} {ρ : Rho} : cIf c f g ρ = (bnd c fun b => if b then f else g) ρ := rfl
theorem ap_cTup {fs : M (List Rv)} {ρ : Rho} : cTup fs ρ = (bnd fs mkTup) ρ := rfl
theorem ap_mkTup {rs : List Rv} {ρ : Rho} : mkTup rs ρ = (fun ρ => match datas rs with
  | some ds => if small ds.length then some (.ok (.d (.tuple ds)) ρ) else none
  | none => none) ρ := rfl
theorem ap_aNil  {ρ : Rho} : aNil  ρ = (VL.ret []) ρ := rfl
theorem ap_aCons {f : M Rv} {g : M (List Rv)} {ρ : Rho} : aCons f g ρ = (bnd f fun x => bnd g fun xs => VL.ret (x :: xs)) ρ := rfl
theorem ap_nDat {f : M Rv} {ρ : Rho} : nDat f ρ = (bnd f fun x => fun ρ => match x with
  | .d d => some (.ok (.dat d) ρ)
  | .o _ => none) ρ := rfl
theorem ap_nLst {fs : M (List Rv)} {ρ : Rho} : nLst fs ρ = (bnd fs mkLst) ρ := rfl
theorem ap_mkLst {rs : List Rv} {ρ : Rho} : mkLst rs ρ = (fun ρ => match datas rs with
  | some ds => if small ds.length then some (.ok (.lst (ds.map .dat)) ρ) else none
  | none => none) ρ := rfl
theorem ap_cFrz {f : M Tr} {ρ : Rho} : cFrz f ρ = (bnd f fun t => fun ρ => match t.toD with
  | some d => some (.ok (.d d) ρ)
  | none => none) ρ := rfl
theorem ap_cLeaf {f : M (Nat × List Nat)} {ρ : Rho} : cLeaf f ρ = (bnd f fun r => fun ρ => match treeAt ρ r with
  | some (.dat d) => some (.ok (.d d) ρ)
  | _ => none) ρ := rfl
theorem ap_cLenP {f : M (Nat × List Nat)} {ρ : Rho} : cLenP f ρ = (bnd f fun r => fun ρ => match treeAt ρ r with
  | some (.lst ts) => some (.ok (.d (.int ts.length)) ρ)
  | _ => none) ρ := rfl
theorem ap_cCall {g : List PyData → Option PyData} {fs : M (List Rv)} {ρ : Rho} : cCall g fs ρ = (bnd fs (call1 g)) ρ := rfl
theorem ap_call1 {g : List PyData → Option PyData} {rs : List Rv} {ρ : Rho} : call1 g rs ρ = (fun ρ => match derSs ρ rs with
  | some ds => (match g ds with
    | some z => some (.ok (.d z) ρ)
    | none => none)
  | none => none) ρ := rfl
theorem ap_cNeg {f : M Rv} {ρ : Rho} : cNeg f ρ = (bnd f fun x => fun ρ => match x with
  | .d (.int i) => some (.ok (.d (.int (-i))) ρ)
  | _ => none) ρ := rfl
theorem ap_nNew {t : Tr} {ρ : Rho} : nNew t ρ = (VL.ret t) ρ := rfl
theorem ap_nMeth {c m : Str} {Ts : List Nat} {k : Nat} {G : Fn} {i : Nat} {fs : M (List Rv)} {ρ : Rho} : nMeth c m Ts k G i fs ρ = (fun ρ => if isCls c m ρ i then bnd fs (fun xs => callR Ts k G (.o i :: xs)) ρ else none) ρ := rfl
theorem ap_nMethK {c m : Str} {Ts : List Nat} {k : Nat} {G : Fn} {i j : Nat} {fs : M (List Rv)} {ρ : Rho} : nMethK c m Ts k G i j fs ρ = (fun ρ => if isCls c m ρ i then bnd fs (fun xs => callK Ts k G i j (.o i :: xs)) ρ else none) ρ := rfl
theorem ap_callK {Ts : List Nat} {m : Nat} {f : Fn} {i j : Nat} {rs : List Rv} {ρ : Rho} : callK Ts m f i j rs ρ = (fun ρ => match ρ[i]? with
  | some (.own (.bor p) t) => if isAl ρ[j]? then (match callR Ts m f rs (killA ρ i j t) with
    | some (.ok r ρ1) => (match backA ρ1 i p with
      | some ρ2 => some (.ok r ρ2)
      | none => none)
    | some (.ex c ρ1) => (match backA ρ1 i p with
      | some ρ2 => some (.ex c ρ2)
      | none => none)
    | none => none) else none
  | _ => none) ρ := rfl
theorem ap_nCall {Ts : List Nat} {m : Nat} {f : Fn} {fs : M (List Rv)} {ρ : Rho} : nCall Ts m f fs ρ = (bnd fs (callN Ts m f)) ρ := rfl
theorem ap_callN {Ts : List Nat} {m : Nat} {f : Fn} {rs : List Rv} {ρ : Rho} : callN Ts m f rs ρ = (fun ρ => match argSls ρ rs with
  | some args => if decide (rs.length = m) && (oneEach rs && allIn Ts rs) then (match f args with
    | some (.ret t, outs) => if backOk args (mrg args outs) then some (.ok t (wb ρ rs (mrg args outs))) else none
    | _ => none) else none
  | none => none) ρ := rfl
theorem ap_nCallR {Ts : List Nat} {m : Nat} {f : Fn} {fs : M (List Rv)} {ρ : Rho} : nCallR Ts m f fs ρ = (bnd fs (callR Ts m f)) ρ := rfl
theorem ap_callR {Ts : List Nat} {m : Nat} {f : Fn} {rs : List Rv} {ρ : Rho} : callR Ts m f rs ρ = (fun ρ => match argSls ρ rs with
  | some args => if decide (rs.length = m) && (oneEach rs && allIn Ts rs) then (match f args with
    | some (.ret t, outs) => if backOk args (mrg args outs) then some (.ok t (wb ρ rs (mrg args outs))) else none
    | some (.exc c, outs) => if backOk args (mrg args outs) then some (.ex c (wb ρ rs (mrg args outs))) else none
    | none => none) else none
  | none => none) ρ := rfl
theorem ap_cCut {f : M Rv} {fl fh : M (Option Int)} {ρ : Rho} : cCut f fl fh ρ = (bnd f fun x => bnd fl fun lo => bnd fh fun hi => cut1 x lo hi) ρ := rfl
theorem ap_cut1 {x : Rv} {lo hi : Option Int} {ρ : Rho} : cut1 x lo hi ρ = (fun ρ => match derS ρ x with
  | some d => (match cutD d lo hi with
    | some z => some (.ok (.d z) ρ)
    | none => none)
  | none => none) ρ := rfl
theorem ap_oNone  {ρ : Rho} : oNone  ρ = (VL.ret none) ρ := rfl
theorem ap_oSome {f : M Rv} {ρ : Rho} : oSome f ρ = (bnd f fun x => fun ρ => match x with
  | .d (.int i) => some (.ok (some i) ρ)
  | _ => none) ρ := rfl
theorem ap_cTab {tb : List (Str × PyData)} {f : M Rv} {ρ : Rho} : cTab tb f ρ = (bnd f (tabD tb)) ρ := rfl
theorem ap_tabD {tb : List (Str × PyData)} {x : Rv} {ρ : Rho} : tabD tb x ρ = (fun ρ => match x with
  | .d (.str z) => (match tb.lookup z with
    | some d => some (.ok (.d d) ρ)
    | none => none)
  | _ => none) ρ := rfl
theorem ap_cIsi {B : BT} {f : M Rv} {ρ : Rho} : cIsi B f ρ = (bnd f fun x => fun ρ => match der ρ x with
  | some d => (match isiD B d with
    | some b => some (.ok (.d (.bool b)) ρ)
    | none => none)
  | none => none) ρ := rfl
theorem ap_nCallP {G : Fn} {f : M (Nat × List Nat)} {ρ : Rho} : nCallP G f ρ = (bnd f fun r => fun ρ => match treeAt ρ r with
  | some t => (match G [.own .lock t] with
    | some (.ret (.dat d), _) => some (.ok (.dat d) ρ)
    | _ => none)
  | none => none) ρ := rfl
theorem ap_nLend {m : Nat} {f : Fn} {fs : M (List LA)} {ρ : Rho} : nLend m f fs ρ = (bnd fs (callL m f)) ρ := rfl
theorem ap_callL {m : Nat} {f : Fn} {ls : List LA} {ρ : Rho} : callL m f ls ρ = (fun ρ => match lendV ρ ls with
  | some ds => if ds.length = m then (match f (ds.map .val) with
    | some (.ret t, _) => if noLt t then some (.ok t ρ) else none
    | _ => none) else none
  | none => none) ρ := rfl
theorem ap_lP {f : M (Nat × List Nat)} {g : M (List LA)} {ρ : Rho} : lP f g ρ = (bnd f fun r => bnd g fun ls => VL.ret (.p r :: ls)) ρ := rfl
theorem ap_lD {f : M Rv} {g : M (List LA)} {ρ : Rho} : lD f g ρ = (bnd f fun x => bnd g fun ls => fun ρ => match x with
  | .d d => some (.ok (.d d :: ls) ρ)
  | _ => none) ρ := rfl
theorem ap_lNil  {ρ : Rho} : lNil  ρ = (VL.ret []) ρ := rfl
theorem ap_cDIn {neg : Bool} {fk : M Rv} {f : M (Nat × List Nat)} {ρ : Rho} : cDIn neg fk f ρ = (bnd fk fun y => bnd f (dIn1 neg y)) ρ := rfl
theorem ap_dIn1 {neg : Bool} {y : Rv} {r : Nat × List Nat} {ρ : Rho} : dIn1 neg y r ρ = (fun ρ => match y, treeAt ρ r with
  | .d d, some t => (match dictAt t d with
    | some z => some (.ok (if neg then !z.isSome else z.isSome) ρ)
    | none => none)
  | _, _ => none) ρ := rfl
theorem ap_cEmp {f : M (Nat × List Nat)} {g : M Tr} {ρ : Rho} : cEmp f g ρ = (bnd f fun r => bnd g fun tn => fun ρ => match treeAt ρ r, tn with
  | some (.lst ts), .lst [] => some (.ok ts.isEmpty ρ)
  | _, _ => none) ρ := rfl
theorem ap_cCmpP {g : PyData → PyData → Option Bool} {T2 : List Nat} {fa : M Rv} {f : M (Nat × List Nat)} {ρ : Rho} : cCmpP g T2 fa f ρ = (bnd fa fun x => bnd f fun r => fun ρ => match der ρ x, (treeAt ρ r).bind Tr.toD with
  | some a, some b => (match g a b with
    | some z => some (.ok z ρ)
    | none => none)
  | _, _ => none) ρ := rfl
theorem ap_nDisp (fs : M (List (Key × Tr))) {ρ : Rho} : nDisp fs ρ = (bnd fs fun kts => fun ρ => if decide (kts.length ≤ 15) && decide ((kts.map (·.1)).Nodup) then some (.ok (.dk kts) ρ) else none) ρ := rfl
theorem ap_dtCons {k : Key} {f : M Tr} (g : M (List (Key × Tr))) {ρ : Rho} : dtCons k f g ρ = (bnd f fun t => bnd g fun kts => VL.ret ((k, t) :: kts)) ρ := rfl
theorem ap_dtNil  {ρ : Rho} : dtNil  ρ = (VL.ret []) ρ := rfl
theorem ap_nDictC {f : M (Nat × List Nat)} {ρ : Rho} : nDictC f ρ = (bnd f fun r => fun ρ => match treeAt ρ r with
  | some (.dk kvs) => (match dats kvs with
    | some ds => some (.ok (.dk (toT ds)) ρ)
    | none => none)
  | _ => none) ρ := rfl
theorem ap_nDictS {f : M (Nat × List Nat)} {ρ : Rho} : nDictS f ρ = (bnd f fun r => fun ρ => match treeAt ρ r with
  | some (.sd ds) => some (.ok (.dk (toT ds)) ρ)
  | _ => none) ρ := rfl
theorem ap_nListC {f : M (Nat × List Nat)} {ρ : Rho} : nListC f ρ = (bnd f fun r => fun ρ => match treeAt ρ r with
  | some (.lst ts) => (match flat ts with
    | some ds => some (.ok (.lst (ds.map .dat)) ρ)
    | none => none)
  | _ => none) ρ := rfl
theorem ap_nCopyDs {v : Nat} {f : M (Nat × List Nat)} {ρ : Rho} : nCopyDs v f ρ = (bnd f fun r => fun ρ => match treeAt ρ r with
  | some (.lst ts) => (match copies ts with
    | some dss => if decide (v < ρ.length) && small dss.length then some (.ok (.lst (copyT dss)) ρ) else none
    | none => none)
  | _ => none) ρ := rfl
theorem ap_nCopyM {v : Nat} {f : M (Nat × List Nat)} {ρ : Rho} : nCopyM v f ρ = (bnd f fun r => fun ρ => match treeAt ρ r with
  | some (.lst ts) => (match copiesM ts with
    | some dss => if decide (v < ρ.length) && small dss.length then some (.ok (.lst (copyM dss)) ρ) else none
    | none => none)
  | _ => none) ρ := rfl
theorem ap_nCatMv {Ts T2 : List Nat} {f : M (Nat × List Nat)} {g : M Tr} {ρ : Rho} : nCatMv Ts T2 f g ρ = (bnd f fun r => bnd g fun tn => fun ρ => if !T2.contains r.1 && (Ts.contains r.1 && modeOk ρ r.1) then (match treeAt ρ r, tn with
  | some (.lst ts), .lst us => if small (ts.length + us.length) then some (.ok (.lst (ts ++ us)) (VL.putAt ρ r .hole)) else none
  | _, _ => none) else none) ρ := rfl
theorem ap_nLstT {fs : M (List Tr)} {ρ : Rho} : nLstT fs ρ = (bnd fs fun ts => fun ρ => if small ts.length then some (.ok (.lst ts) ρ) else none) ρ := rfl
theorem ap_tConsM {f : M Tr} {g : M (List Tr)} {ρ : Rho} : tConsM f g ρ = (bnd f fun x => bnd g fun xs => VL.ret (x :: xs)) ρ := rfl
theorem ap_tNilM  {ρ : Rho} : tNilM  ρ = (VL.ret []) ρ := rfl
theorem ap_nTupT {fs : M (List Tr)} {ρ : Rho} : nTupT fs ρ = (bnd fs fun ts => fun ρ => if small ts.length && ts.any isNode then some (.ok (.tup ts) ρ) else none) ρ := rfl
theorem ap_nCutMv {Ts T2 : List Nat} {f : M (Nat × List Nat)} {fl fh : M (Option Int)} {ρ : Rho} : nCutMv Ts T2 f fl fh ρ = (bnd f fun r => bnd fl fun lo => bnd fh fun hi => fun ρ => if !T2.contains r.1 && (Ts.contains r.1 && modeOk ρ r.1) then (match treeAt ρ r with
  | some (.lst ts) => some (.ok (.lst (cutL ts lo hi)) (VL.putAt ρ r .hole))
  | _ => none) else none) ρ := rfl
theorem ap_cLk {i : Nat} {f : M Rv} {ρ : Rho} : cLk i f ρ = (fun ρ => match lkS ρ i with
  | some ρ1 => (match f ρ1 with
    | some (.ok (.d d) ρ2) => (match ρ[i]? with
      | some s => some (.ok (.d d) (ρ2.set i s))
      | none => none)
    | _ => none)
  | none => none) ρ := rfl
theorem ap_nMv {i : Nat} {ρ : Rho} : nMv i ρ = (fun ρ => match ρ[i]? with
  | some (.own .free t) => some (.ok t (ρ.set i (.own .free .hole)))
  | _ => none) ρ := rfl
theorem ap_nMvP {Ts : List Nat} {f : M (Nat × List Nat)} {ρ : Rho} : nMvP Ts f ρ = (bnd f fun r => fun ρ => if Ts.contains r.1 && modeOk ρ r.1 then (match treeAt ρ r with
  | some t => some (.ok t (VL.putAt ρ r .hole))
  | none => none) else none) ρ := rfl
theorem ap_pVar {i : Nat} {ρ : Rho} : pVar i ρ = (fun ρ => match ρ[i]? with
  | some (.own _ _) => some (.ok (i, []) ρ)
  | _ => none) ρ := rfl
theorem ap_pKey {T2 : List Nat} {f : M (Nat × List Nat)} {g : M Rv} {ρ : Rho} : pKey T2 f g ρ = (bnd f fun r => bnd g fun y => fun ρ => if T2.contains r.1 then none else match treeAt ρ r, y with
  | some (.dk kvs), .d d => (match keyD d with
    | some k => (match keyIx k kvs with
      | some j => some (.ok (r.1, r.2 ++ [j]) ρ)
      | none => none)
    | none => none)
  | _, _ => none) ρ := rfl
theorem ap_pIx {T2 : List Nat} {f : M (Nat × List Nat)} {g : M Rv} {ρ : Rho} : pIx T2 f g ρ = (bnd f fun r => bnd g fun y => fun ρ => if T2.contains r.1 then none else match treeAt ρ r, y with
  | some (.lst ts), .d (.int n) => (match ixN ts.length n with
    | some j => some (.ok (r.1, r.2 ++ [j]) ρ)
    | none => none)
  | some (.tup ts), .d (.int n) => (match ixN ts.length n with
    | some j => some (.ok (r.1, r.2 ++ [j]) ρ)
    | none => none)
  | _, _ => none) ρ := rfl
theorem ap_pAl {j : Nat} {ρ : Rho} : pAl j ρ = (fun ρ => match ρ[j]? with
  | some (.al i p) => (match ρ[i]? with
    | some (.own (.bor q) _) => if q = p then some (.ok (i, p) ρ) else none
    | _ => none)
  | _ => none) ρ := rfl
theorem ap_pFld {c f : Str} {fo : M (Nat × List Nat)} {ρ : Rho} : pFld c f fo ρ = (bnd fo fun r => fun ρ => match treeAt ρ r with
  | some (.ins c' fs) => if c' = c then (match keyIx f fs with
    | some j => some (.ok (r.1, r.2 ++ [j]) ρ)
    | none => none) else none
  | _ => none) ρ := rfl
theorem ap_iSeq {f : M Rv} {ρ : Rho} : iSeq f ρ = (bnd f fun x => fun ρ => match x with
  | .d d => (match itemsOf d with
    | some xs => some (.ok xs ρ)
    | none => none)
  | .o _ => none) ρ := rfl
theorem ap_nCat {fa fb : M Rv} {ρ : Rho} : nCat fa fb ρ = (bnd fa fun x => bnd fb fun y => cat1 x y) ρ := rfl
theorem ap_sSeq {g h : MS} {ρ : Rho} : sSeq g h ρ = (fun ρ => match g ρ with
  | some (.nx ρ1) => h ρ1
  | o => o) ρ := rfl
theorem ap_sE {α : Type} {f : M α} {k : α → MS} {ρ : Rho} : sE f k ρ = (fun ρ => match f ρ with
  | some (.ok a ρ1) => k a ρ1
  | some (.ex c ρ1) => some (.ex c ρ1)
  | none => none) ρ := rfl
theorem ap_sIf {c : M Bool} {g h : MS} {ρ : Rho} : sIf c g h ρ = (sE c fun b => if b then g else h) ρ := rfl
theorem ap_sSet {i : Nat} {f : M Rv} {ρ : Rho} : sSet i f ρ = (sE f fun x => match x with
  | .d d => putD i d
  | .o _ => fun _ => none) ρ := rfl
theorem ap_sSetN {i : Nat} {f : M Tr} {ρ : Rho} : sSetN i f ρ = (sE f fun t => fun ρ => (setSl ρ i (.own .free t)).map .nx) ρ := rfl
theorem ap_putD {i : Nat} {d : PyData} {ρ : Rho} : putD i d ρ = (fun ρ => (setSl ρ i (.val d)).map .nx) ρ := rfl
theorem ap_sAsg {G : MG} {f : M Rv} {ρ : Rho} : sAsg G f ρ = (sE f fun x => fun ρ => match x with
  | .d d => (G d ρ).map .nx
  | .o _ => none) ρ := rfl
theorem ap_gT {n : Nat} {Gs : MGs} {zd : PyData} {ρ : Rho} : gT n Gs zd ρ = (fun d ρ => match d with
  | .tuple ds => if ds.length = n then Gs ds ρ else none
  | _ => none) zd ρ := rfl
theorem ap_gsC {G : MG} {Gs : MGs} {zd : List PyData} {ρ : Rho} : gsC G Gs zd ρ = (fun ds ρ => match ds with
  | d :: r => (match G d ρ with
    | some ρ1 => Gs r ρ1
    | none => none)
  | [] => none) zd ρ := rfl
theorem ap_gsN  {zd : List PyData} {ρ : Rho} : gsN  zd ρ = (fun ds ρ => match ds with
  | [] => some ρ
  | _ => none) zd ρ := rfl
theorem ap_gN {i : Nat} {zd : PyData} {ρ : Rho} : gN i zd ρ = (fun d ρ => setSl ρ i (.val d)) zd ρ := rfl
theorem ap_sDrop {f : M Rv} {ρ : Rho} : sDrop f ρ = (sE f fun _ => sNil) ρ := rfl
theorem ap_sNil  {ρ : Rho} : sNil  ρ = (fun ρ => some (.nx ρ)) ρ := rfl
theorem ap_sRet {f : M Tr} {ρ : Rho} : sRet f ρ = (sE f fun t => fun ρ => some (.rt t ρ)) ρ := rfl
theorem ap_sRetN  {ρ : Rho} : sRetN  ρ = (fun ρ => some (.rt (.dat .none) ρ)) ρ := rfl
theorem ap_sRetV {i : Nat} {ρ : Rho} : sRetV i ρ = (fun ρ => match ρ[i]? with
  | some (.val d) => some (.rt (.dat d) ρ)
  | some (.own .free t) => some (.rt t (ρ.set i .no))
  | _ => none) ρ := rfl
theorem ap_sRaise {c : Str} {ρ : Rho} : sRaise c ρ = (fun ρ => some (.ex c ρ)) ρ := rfl
theorem ap_sAl {j : Nat} {f : M (Nat × List Nat)} {ρ : Rho} : sAl j f ρ = (sE f fun r => fun ρ => (mkAl j r ρ).map .nx) ρ := rfl
theorem ap_sEd {i : Nat} {g : MS} {ρ : Rho} : sEd i g ρ = (fun ρ => g (unbor ρ i)) ρ := rfl
theorem ap_sKeyT {T2 : List Nat} {g : M Tr} {f : M (Nat × List Nat)} {fk : M Rv} {ρ : Rho} : sKeyT T2 g f fk ρ = (sE g fun tn => sE f fun r => sE fk (keyT1 T2 tn r)) ρ := rfl
theorem ap_keyT1 {T2 : List Nat} {tn : Tr} {r : Nat × List Nat} {y : Rv} {ρ : Rho} : keyT1 T2 tn r y ρ = (fun ρ => if T2.contains r.1 || !modeA ρ r then none else match y, treeAt ρ r with
  | .d kd, some (.dk kts) => (match keyD kd with
    | some k => if small (kts.length + 1) && decide ((kts.map (·.1)).Nodup) then some (.nx (VL.putAt ρ r (.dk (putR k tn kts)))) else none
    | none => none)
  | _, _ => none) ρ := rfl
theorem ap_sDPut {T2 : List Nat} {fe : M Rv} {f : M (Nat × List Nat)} {fk : M Rv} {ρ : Rho} : VL.sDPut T2 fe f fk ρ = (sE fe fun x => match x with
  | .d d => sE f fun r => sE fk (dPut1 T2 d r)
  | .o _ => fun _ => none) ρ := rfl
theorem ap_dPut1 {T2 : List Nat} {d : PyData} {r : Nat × List Nat} {y : Rv} {ρ : Rho} : dPut1 T2 d r y ρ = (fun ρ => if T2.contains r.1 || !modeOk ρ r.1 then none else match y, treeAt ρ r with
  | .d kd, some (.dk kvs) => (match keyD kd, dats kvs with
    | some k, some ds => if small (ds.length + 1) then some (.nx (VL.putAt ρ r (.dk (toT (putP ds k d))))) else none
    | _, _ => none)
  | .d kd, some (.dt kvs) => (match keyT kd, dats kvs with
    | some k, some ds => if small (ds.length + 1) then some (.nx (VL.putAt ρ r (.dt (toT (putP ds k d))))) else none
    | _, _ => none)
  | _, _ => none) ρ := rfl
theorem ap_sDPutA {T2 : List Nat} {fe : M Rv} {f : M (Nat × List Nat)} {fk : M Rv} {ρ : Rho} : sDPutA T2 fe f fk ρ = (sE fe fun x => match x with
  | .d d => sE f fun r => sE fk (dPutA1 T2 d r)
  | .o _ => fun _ => none) ρ := rfl
theorem ap_dPutA1 {T2 : List Nat} {d : PyData} {r : Nat × List Nat} {y : Rv} {ρ : Rho} : dPutA1 T2 d r y ρ = (fun ρ => if T2.contains r.1 || !modeA ρ r then none else match y, treeAt ρ r with
  | .d kd, some (.dk kvs) => (match keyD kd, dats kvs with
    | some k, some ds => if small (ds.length + 1) then some (.nx (VL.putAt ρ r (.dk (toT (putP ds k d))))) else none
    | _, _ => none)
  | _, _ => none) ρ := rfl
theorem ap_sApp {T2 : List Nat} {f : M (Nat × List Nat)} {g : M Tr} {ρ : Rho} : sApp T2 f g ρ = (sE f fun r => fun ρ => if isLst (treeAt ρ r) then sE g (app1 T2 r) ρ else none) ρ := rfl
theorem ap_app1 {T2 : List Nat} {r : Nat × List Nat} {tn : Tr} {ρ : Rho} : app1 T2 r tn ρ = (fun ρ => if T2.contains r.1 || !modeOk ρ r.1 then none else match treeAt ρ r with
  | some (.lst ts) => if small (ts.length + 1) then some (.nx (VL.putAt ρ r (.lst (ts ++ [tn])))) else none
  | _ => none) ρ := rfl
theorem ap_sFldT {c f : Str} {g : M Tr} {fo : M (Nat × List Nat)} {ρ : Rho} : sFldT c f g fo ρ = (sE g fun t => sE fo (fld1 c f [] t)) ρ := rfl
theorem ap_fld1 {c f : Str} {T2 : List Nat} {tn : Tr} {r : Nat × List Nat} {ρ : Rho} : fld1 c f T2 tn r ρ = (fun ρ => if !modeOk ρ r.1 then none else match treeAt ρ r with
  | some (.ins c' fs) => if c' = c ∧ fs.length < 1000 then some (.nx (VL.putAt ρ r (.ins c (putFT f tn fs)))) else none
  | _ => none) ρ := rfl
theorem ap_sPar {i j : Nat} {fs : M (List Rv)} {ρ : Rho} : sPar i j fs ρ = (sE fs fun rs => fun ρ => match rs with
  | [.d a, .d b] => (match setSl ρ i (.val a) with
    | some ρ1 => (setSl ρ1 j (.val b)).map .nx
    | none => none)
  | _ => none) ρ := rfl
theorem ap_sTryK {cs : List Str} {j k : Nat} {g : MS} {ρ : Rho} : sTryK cs j k g ρ = (fun ρ => match g ρ with
  | some (.ex c ρ1) => if c ∈ cs ∧ isNo ρ1[j]? = true then (match setSl ρ1 k (.val (.str (c ++ plusS))) with
    | some ρ2 => if isNo ρ2[j]? then some (.nx ρ2) else none
    | none => none) else none
  | o => o) ρ := rfl
theorem ap_sUpd {T2 : List Nat} {f : M (Nat × List Nat)} {g : M Tr} {ρ : Rho} : sUpd T2 f g ρ = (sE f fun r => fun ρ => if isDkk (treeAt ρ r) then sE g (upd1 T2 r) ρ else none) ρ := rfl
theorem ap_upd1 {T2 : List Nat} {r : Nat × List Nat} {tn : Tr} {ρ : Rho} : upd1 T2 r tn ρ = (fun ρ => if T2.contains r.1 || !modeOk ρ r.1 then none else match treeAt ρ r, tn with
  | some (.dk kts), .dk us => if small (kts.length + us.length) && decide ((kts.map (·.1)).Nodup) then some (.nx (VL.putAt ρ r (.dk (mergeR kts us)))) else none
  | _, _ => none) ρ := rfl
theorem ap_sPopK {T2 : List Nat} {f : M (Nat × List Nat)} {fk : M Rv} {ρ : Rho} : sPopK T2 f fk ρ = (sE f fun r => fun ρ => if isDk (treeAt ρ r) then sE fk (popK1 T2 r) ρ else none) ρ := rfl
theorem ap_popK1 {T2 : List Nat} {r : Nat × List Nat} {y : Rv} {ρ : Rho} : popK1 T2 r y ρ = (fun ρ => if T2.contains r.1 || !modeOk ρ r.1 then none else match y, treeAt ρ r with
  | .d kd, some (.dk kvs) => (match keyD kd, dats kvs with
    | some k, some ds => if (ds.any fun kv => decide (kv.1 = k)) then some (.nx (VL.putAt ρ r (.dk (toT (ds.filter fun kv => decide (kv.1 ≠ k)))))) else none
    | _, _ => none)
  | _, _ => none) ρ := rfl
theorem ap_sFzP {f : M (Nat × List Nat)} {g : MS} {ρ : Rho} : sFzP f g ρ = (fun ρ => match f ρ with
  | some (.ok r _) => (match fzP ρ r with
    | some ρ1 => g ρ1
    | none => none)
  | _ => none) ρ := rfl
theorem ap_sUnp {i j : Nat} {f : M Tr} {ρ : Rho} : sUnp i j f ρ = (sE f fun t => fun ρ => match t with
  | .tup [t1, t2] => (match setSl ρ i (asSl t1) with
    | some ρ1 => (setSl ρ1 j (asSl t2)).map .nx
    | none => none)
  | _ => none) ρ := rfl
theorem ap_sFor {fi : M (List PyData)} {G : MG} {body : MS} {ρ : Rho} : sFor fi G body ρ = (sE fi fun xs => loopF G body xs) ρ := rfl
theorem ap_sSetIx {T2 : List Nat} {fe : M Rv} {f : M (Nat × List Nat)} {fi : M Rv} {ρ : Rho} : sSetIx T2 fe f fi ρ = (sE fe fun x => match x with
  | .d d => sE f fun r => sE fi (setIx1 T2 d r)
  | .o _ => fun _ => none) ρ := rfl
end VR

end

section
set_option Elab.async false
set_option linter.all false
set_option maxRecDepth 100000
namespace SP
open PySem PySem.Spec PyProof.Rows L2 VL SM
structure St where
  mo : Int
  op : Bool
  off : Int
  held : List (Key × PyData)
  made : List (List (Key × PyData))
  up : List PyData
  dealt : List PyData
noncomputable def numD (x : St) : PyData := .tuple [.int x.mo, .bool x.op, .int x.off]
noncomputable def stT (x : St) : Tr := .tup [.dat (numD x), .dk (toT x.held), .lst (copyT x.made), .lst (x.up.map .dat), .lst (x.dealt.map .dat)]
noncomputable def pastT (p : List (St × PyData)) : List Tr := p.map fun q => .tup [stT q.1, .dat q.2]
noncomputable def hFs (z s : Tr) (mo op off held made up dealt past : Tr) : List (Str × Tr) := [(s_size, z), (s_start, s), (s_moment, mo), (s_opened, op), (s_offered, off), (s_held, held), (s_made, made), (s_put_up, up), (s_dealt, dealt), (s_past, past)]
noncomputable def hT (z s mo op off held made up dealt past : Tr) : Tr := .ins s_Hall (hFs z s mo op off held made up dealt past)
noncomputable def hallT (z s : Int) (x : St) (p : List (St × PyData)) : Tr := hT (.dat (.int z)) (.dat (.int s)) (.dat (.int x.mo)) (.dat (.bool x.op)) (.dat (.int x.off)) (.dk (toT x.held)) (.lst (copyT x.made)) (.lst (x.up.map .dat)) (.lst (x.dealt.map .dat)) (.lst (pastT p))
section
variable {z s : Int} {x : St} {p : List (St × PyData)}
@[simp] theorem kids_hallT : kids (hallT z s x p) = [.dat (.int z), .dat (.int s), .dat (.int x.mo), .dat (.bool x.op), .dat (.int x.off), .dk (toT x.held), .lst (copyT x.made), .lst (x.up.map .dat), .lst (x.dealt.map .dat), .lst (pastT p)] := rfl
@[simp] theorem put_held {y : List (Key × PyData)} : (hallT z s x p).put [5] (.dk (toT y)) = hallT z s { x with held := y } p := rfl
@[simp] theorem put_made {y : List (List (Key × PyData))} : (hallT z s x p).put [6] (.lst (copyT y)) = hallT z s { x with made := y } p := rfl
@[simp] theorem put_past {q : List (St × PyData)} : (hallT z s x p).put [9] (.lst (pastT q)) = hallT z s x q := rfl
end
section
variable {z s mo op off held made up dealt past t : Tr}
theorem ix_size : fldIx s_Hall s_size (some (hT z s mo op off held made up dealt past)) = some 0 := by kernel_rfl
theorem ix_start : fldIx s_Hall s_start (some (hT z s mo op off held made up dealt past)) = some 1 := by kernel_rfl
theorem ix_moment : fldIx s_Hall s_moment (some (hT z s mo op off held made up dealt past)) = some 2 := by kernel_rfl
theorem ix_opened : fldIx s_Hall s_opened (some (hT z s mo op off held made up dealt past)) = some 3 := by kernel_rfl
theorem ix_offered : fldIx s_Hall s_offered (some (hT z s mo op off held made up dealt past)) = some 4 := by kernel_rfl
theorem ix_held : fldIx s_Hall s_held (some (hT z s mo op off held made up dealt past)) = some 5 := by kernel_rfl
theorem ix_made : fldIx s_Hall s_made (some (hT z s mo op off held made up dealt past)) = some 6 := by kernel_rfl
theorem ix_put_up : fldIx s_Hall s_put_up (some (hT z s mo op off held made up dealt past)) = some 7 := by kernel_rfl
theorem ix_dealt : fldIx s_Hall s_dealt (some (hT z s mo op off held made up dealt past)) = some 8 := by kernel_rfl
theorem ix_past : fldIx s_Hall s_past (some (hT z s mo op off held made up dealt past)) = some 9 := by kernel_rfl
end
@[simp] theorem jx_size {z s : Int} {x : St} {p : List (St × PyData)} : fldIx s_Hall s_size (some (hallT z s x p)) = some 0 := ix_size
@[simp] theorem jx_start {z s : Int} {x : St} {p : List (St × PyData)} : fldIx s_Hall s_start (some (hallT z s x p)) = some 1 := ix_start
@[simp] theorem jx_moment {z s : Int} {x : St} {p : List (St × PyData)} : fldIx s_Hall s_moment (some (hallT z s x p)) = some 2 := ix_moment
@[simp] theorem jx_opened {z s : Int} {x : St} {p : List (St × PyData)} : fldIx s_Hall s_opened (some (hallT z s x p)) = some 3 := ix_opened
@[simp] theorem jx_offered {z s : Int} {x : St} {p : List (St × PyData)} : fldIx s_Hall s_offered (some (hallT z s x p)) = some 4 := ix_offered
@[simp] theorem jx_held {z s : Int} {x : St} {p : List (St × PyData)} : fldIx s_Hall s_held (some (hallT z s x p)) = some 5 := ix_held
@[simp] theorem jx_made {z s : Int} {x : St} {p : List (St × PyData)} : fldIx s_Hall s_made (some (hallT z s x p)) = some 6 := ix_made
@[simp] theorem jx_put_up {z s : Int} {x : St} {p : List (St × PyData)} : fldIx s_Hall s_put_up (some (hallT z s x p)) = some 7 := ix_put_up
@[simp] theorem jx_dealt {z s : Int} {x : St} {p : List (St × PyData)} : fldIx s_Hall s_dealt (some (hallT z s x p)) = some 8 := ix_dealt
@[simp] theorem jx_past {z s : Int} {x : St} {p : List (St × PyData)} : fldIx s_Hall s_past (some (hallT z s x p)) = some 9 := ix_past
section
variable {z s mo op off held made up dealt past t : Tr}
end
end SP

end

section
set_option Elab.async false
set_option linter.all false
set_option maxRecDepth 100000
namespace SP
open PySem PySem.Spec PyProof.Rows L2 VL SM
section
variable {z s : Int} {x : St} {p : List (St × PyData)} {m : Md}
end
end SP

end

section
set_option Elab.async false
set_option linter.all false
set_option maxRecDepth 100000
namespace SP
open PySem PySem.Spec PyProof.Rows L2 VL SM
section
variable {z s : Int} {x y : St} {p q : List (St × PyData)} {m m2 : Md}
structure Of where
  n : Int
  mem : Int
  a : Str
  b : Int
  c : Int
  d : Str
  pr : Int
  lf : Int
noncomputable def Of.sg (o : Of) : PyData := .tuple [.str o.a, .int o.b, .int o.c, .str o.d]
noncomputable def Of.v (o : Of) : PyData := .tuple [.int o.mem, o.sg, .int o.pr, .int o.lf]
noncomputable def Of.kv (o : Of) : Key × PyData := (.inl o.n, o.v)
noncomputable def Of.row (o : Of) : PyData := .tuple [.int o.n, .int o.mem, o.sg, .int o.pr, .int o.lf]
end
end SP

end

section
set_option Elab.async false
set_option linter.all false
set_option maxRecDepth 100000
namespace SP
open PySem PySem.Spec PyProof.Rows L2 VL SM
section
variable {z s : Int} {x y : St} {p q : List (St × PyData)} {m m2 : Md} {os : List Of}
@[simp] theorem lk_ix {t : Tr} : fldIx s_Hall s_held (some (setKid (hallT z s x p) 5 t)) = some 5 := by kernel_rfl
@[simp] theorem lk_kids {t : Tr} : kids (setKid (hallT z s x p) 5 t) = [.dat (.int z), .dat (.int s), .dat (.int x.mo), .dat (.bool x.op), .dat (.int x.off), t, .lst (copyT x.made), .lst (x.up.map .dat), .lst (x.dealt.map .dat), .lst (pastT p)] := rfl
noncomputable def PalmS (a : Str) : Prop := a = sIn ∨ a = sOut
noncomputable def mine (i : Int) (a : Str) (o : Of) : Bool := decide (o.mem = i) && decide (o.a = a)
end
end SP

end

section
set_option Elab.async false
set_option linter.all false
set_option maxRecDepth 100000
namespace SH
open PySem PySem.Spec PyProof.Rows L2 VL SM SP
structure Bg where
  a : Int
  b : Int
  sg : PyData
  lk : PyData
  sw : PyData
  se : PyData
  u1 : Bool
  u2 : Bool
  p1 : Int
  c1 : Int
  p2 : Int
  c2 : Int
  mo : Int
  inn : List Int
  wd : Str
  cl : Int
  ch : List (Int × Int × Int)
  co : List (Int × Int × Int)
noncomputable def sdS (u : Bool) : Str := if u then sBought else sSold
noncomputable def Bg.mine (g : Bg) : PyData := .tuple [.int g.a, .int g.b, .str (sdS g.u1), .int g.p1, .int g.c1, .int g.mo]
noncomputable def Bg.their (g : Bg) : PyData := .tuple [.int g.b, .int g.a, .str (sdS g.u2), .int g.p2, .int g.c2, .int g.mo]
noncomputable def csD (r : Int × Int × Int) : PyData := .tuple [.int r.1, .int r.2.1, .int r.2.2]
noncomputable def coK (r : Int × Int × Int) : Key × PyData := (.inl r.1, .tuple [.int r.2.1, .int r.2.2])
noncomputable def Bg.hd (g : Bg) : List (Key × PyData) := [(.inr s_two, .tuple [.int g.a, .int g.b]), (.inr s_signs, .tuple [g.sg, g.lk, g.sw, g.se]), (.inr s_cards, .tuple [g.mine, g.their]), (.inr sIn, .tuple (g.inn.map .int)), (.inr s_word, .str g.wd), (.inr s_called, .int g.cl), (.inr s_consents, .tuple (g.ch.map csD))]
noncomputable def Bg.od (g : Bg) : List (Key × Tr) := [(.inr s_signs, .dat (.tuple [g.sg, g.lk, g.sw, g.se])), (.inr s_cards, .dat (.tuple [g.mine, g.their])), (.inr sIn, .dat (.tuple (g.inn.map .int))), (.inr s_end, .dat (.str g.wd)), (.inr s_called, .dat (.int g.cl)), (.inr s_consents, .sd (g.co.map coK))]
structure S where
  mo : Int
  op : Bool
  off : Int
  held : List Of
  made : List Bg
  up : List PyData
  dl : List PyData
noncomputable def S.st (x : S) : SP.St := ⟨x.mo, x.op, x.off, x.held.map Of.kv, x.made.map Bg.hd, x.up, x.dl⟩
noncomputable abbrev Past := List (S × PyData)
noncomputable def HT (z s : Int) (x : S) (p : Past) : Tr := hallT z s x.st (p.map fun q => (q.1.st, q.2))
section
variable {z s : Int} {x : S} {p : Past} {rest : Rho} {md : Md} {n : Nat} {g : Bg}
end
end SH

end

section
set_option Elab.async false
set_option linter.all false
set_option maxRecDepth 100000
open PySem PySem.Spec PyProof.Rows L2 VL
theorem VR.c_List_map_cons : type_of% @List.map_cons.{0, 0} := by intros; rfl
theorem VR.c_List_map_nil : type_of% @List.map_nil.{0, 0} := by intros; rfl
theorem VR.c_List_length_cons : type_of% @List.length_cons.{0} := by intros; rfl
theorem VR.c_List_length_nil : type_of% @List.length_nil.{0} := by intros; rfl
theorem VR.c_List_cons_append : type_of% @List.cons_append.{0} := by intros; rfl
theorem VR.c_List_nil_append : type_of% @List.nil_append.{0} := by intros; rfl
theorem VR.c_List_getElem_cons_zero : type_of% @List.getElem?_cons_zero.{0} := by intros; rfl
theorem VR.c_List_getElem_cons_succ : type_of% @List.getElem?_cons_succ.{0} := by intros; rfl
theorem VR.c_List_set_cons_zero : type_of% @List.set_cons_zero.{0} := by intros; rfl
theorem VR.c_List_set_cons_succ : type_of% @List.set_cons_succ.{0} := by intros; rfl
theorem VR.c_List_take_succ_cons : type_of% @List.take_succ_cons.{0} := by intros; rfl
theorem VR.c_List_take_zero : type_of% @List.take_zero.{0} := by intros; rfl
theorem VR.c_List_contains_nil : type_of% @List.contains_nil.{0} := @List.contains_nil.{0}
theorem VR.c_Bool_false_or : type_of% @Bool.false_or := by intros; rfl
theorem VR.c_Bool_or_false : type_of% @Bool.or_false := @Bool.or_false
theorem VR.c_Bool_not_true : type_of% @Bool.not_true := by intros; rfl
theorem VR.c_Bool_not_false : type_of% @Bool.not_false := by intros; rfl
theorem VR.c_Bool_false_eq_true : type_of% @Bool.false_eq_true := @Bool.false_eq_true
theorem VR.c_Bool_and_self : type_of% @Bool.and_self := @Bool.and_self
theorem VR.c_Bool_and_true : type_of% @Bool.and_true := @Bool.and_true
theorem VR.c_Bool_true_and : type_of% @Bool.true_and := by intros; rfl
theorem VR.c_Bool_or_self : type_of% @Bool.or_self := @Bool.or_self
theorem VR.c_Bool_and_false : type_of% @Bool.and_false := @Bool.and_false
theorem VR.c_Bool_false_and : type_of% @Bool.false_and := by intros; rfl
theorem VR.c_Bool_or_true : type_of% @Bool.or_true := @Bool.or_true
theorem VR.c_Bool_true_or : type_of% @Bool.true_or := by intros; rfl
theorem VR.c_if_true : type_of% @if_true.{1} := @if_true.{1}
theorem VR.c_if_false : type_of% @if_false.{1} := @if_false.{1}
theorem VR.c_ne_eq : type_of% @ne_eq.{1} := @ne_eq.{1}
theorem VR.c_not_false_eq_true : type_of% @not_false_eq_true := @not_false_eq_true
theorem VR.c_not_true_eq_false : type_of% @not_true_eq_false := @not_true_eq_false
theorem VR.c_decide_true : type_of% @decide_true := @decide_true
theorem VR.c_decide_false : type_of% @decide_false := @decide_false
theorem VR.c_Option_map_some : type_of% @Option.map_some.{0, 0} := by intros; rfl
theorem VR.c_Option_map_none : type_of% @Option.map_none.{0, 0} := by intros; rfl
theorem VR.c_List_head_cons : type_of% @List.head?_cons.{0} := by intros; rfl
theorem VR.c_List_tail_cons : type_of% @List.tail_cons.{0} := by intros; rfl
theorem VR.c_List_all_cons : type_of% @List.all_cons.{0} := @List.all_cons.{0}
theorem VR.c_List_all_nil : type_of% @List.all_nil.{0} := by intros; rfl
theorem VR.c_Option_isNone_none : type_of% @Option.isNone_none.{0} := by intros; rfl
theorem VR.c_Option_isSome_none : type_of% @Option.isSome_none.{0} := by intros; rfl
theorem VR.c_Option_isSome_some : type_of% @Option.isSome_some.{0} := by intros; rfl
theorem VR.c_Option_isNone_some : type_of% @Option.isNone_some.{0} := by intros; rfl
theorem VR.c_List_contains_cons : type_of% @List.contains_cons.{0} := @List.contains_cons.{0}
theorem VR.c_beq_self_eq_true : type_of% @beq_self_eq_true.{0} := @beq_self_eq_true.{0}
theorem VR.c_eq_self : type_of% @eq_self.{1} := @eq_self.{1}
theorem VR.c_and_self : type_of% @and_self := @and_self
theorem VR.c_and_true : type_of% @and_true := @and_true
theorem VR.c_true_and : type_of% @true_and := @true_and
theorem VR.c_and_false : type_of% @and_false := @and_false
theorem VR.c_false_and : type_of% @false_and := @false_and
theorem VR.c_or_self : type_of% @or_self := @or_self
theorem VR.c_or_true : type_of% @or_true := @or_true
theorem VR.c_true_or : type_of% @true_or := @true_or
theorem VR.c_or_false : type_of% @or_false := @or_false
theorem VR.c_false_or : type_of% @false_or := @false_or
theorem VR.c_at_nil : type_of% @at_nil := @at_nil

end

set_option maxRecDepth 1000000
local macro_rules | `(tactic| simp! only [$xs,*]) => `(tactic| simp only [Nat.reduceSub, Nat.reduceAdd, Nat.reduceBEq, Nat.reduceEqDiff, Nat.reduceLT, reduceCtorEq, VL.runF, VL.entry, VL.noAl, VL.isAlOf, VL.treeAt, VL.putAt, VL.modeOk, VL.modeA, VL.mkAl, VL.unbor, VL.isLst, VL.asB, VL.datas, VL.derSs, VL.isAl, VL.killA, VL.backA, VL.argSls, VL.argSl, VL.Md.arg, VL.allIn, VL.oneEach, VL.posOf, VL.wb, VL.wbGo, VL.wb1, VR.c_List_map_cons, VR.c_List_map_nil, VR.c_List_length_cons, VR.c_List_length_nil, VR.c_List_cons_append, VR.c_List_nil_append, VR.c_List_getElem_cons_zero, VR.c_List_getElem_cons_succ, VR.c_List_set_cons_zero, VR.c_List_set_cons_succ, VR.c_List_take_succ_cons, VR.c_List_take_zero, VR.c_List_contains_nil, VR.c_Bool_false_or, VR.c_Bool_or_false, VR.c_Bool_not_true, VR.c_Bool_not_false, VR.c_Bool_false_eq_true, VR.c_Bool_and_self, VR.c_Bool_and_true, VR.c_Bool_true_and, VR.c_Bool_or_self, VR.c_Bool_and_false, VR.c_Bool_false_and, VR.c_Bool_or_true, VR.c_Bool_true_or, VR.c_if_true, VR.c_if_false, VR.c_ne_eq, VR.c_not_false_eq_true, VR.c_not_true_eq_false, VR.c_decide_true, VR.c_decide_false, VR.c_Option_map_some, VR.c_Option_map_none, VR.c_List_head_cons, VR.c_List_tail_cons, VR.c_List_all_cons, VR.c_List_all_nil, VR.c_Option_isNone_none, VR.c_Option_isSome_none, VR.c_Option_isSome_some, VR.c_Option_isNone_some, VR.c_List_contains_cons, VR.c_beq_self_eq_true, VR.c_eq_self, VR.c_and_self, VR.c_and_true, VR.c_true_and, VR.c_and_false, VR.c_false_and, VR.c_or_self, VR.c_or_true, VR.c_true_or, VR.c_or_false, VR.c_false_or, VR.ap_cVar, VR.cv_val, VR.cv_dat, VR.cv_tup, VR.cv_lst, VR.cv_dk, VR.pref, VR.pref0, VR.mrg1_val, VR.mrg1_own, VR.mrg_nil, VR.mrg_cons, VR.wb_d0, VR.wb_d1, VR.wb_d2, VR.wb_d3, VR.wb_d4, VR.wb_d5, VR.backOk_nil, VR.backOk_val, VR.backOk_own, VR.der_d, VR.derS_d, VR.argSl_d, VR.kd_str, VR.kd_int, VR.eqI, VR.neI, VR.ltI, VR.leI, VR.gtI, VR.geI, VR.addI, VR.subtI, VR.sub0, VR.sub1, VR.sub2, VR.sub3, VR.sub4, VR.sub5, VR.sm0, VR.sm1, VR.sm2, VR.sm3, VR.sm4, VR.sm5, VR.sm6, VR.sm7, VR.sm8, VR.sm9, VR.toD_d, VR.c_at_nil, VR.ap_bnd, VR.ap_ret, VR.ap_cD, VR.ap_cDGet, VR.ap_dGet1, VR.ap_cBin, VR.ap_bin1, VR.ap_cCmp, VR.ap_binD, VR.ap_cOf, VR.ap_cChain, VR.ap_cTest, VR.ap_cNot, VR.ap_cAnd, VR.ap_cOr, VR.ap_cAndV, VR.ap_cOrV, VR.ap_cNotV, VR.ap_cIf, VR.ap_cTup, VR.ap_mkTup, VR.ap_aNil, VR.ap_aCons, VR.ap_nDat, VR.ap_nLst, VR.ap_mkLst, VR.ap_cFrz, VR.ap_cLeaf, VR.ap_cLenP, VR.ap_cCall, VR.ap_call1, VR.ap_cNeg, VR.ap_nNew, VR.ap_nMeth, VR.ap_nMethK, VR.ap_callK, VR.ap_nCall, VR.ap_callN, VR.ap_nCallR, VR.ap_callR, VR.ap_cCut, VR.ap_cut1, VR.ap_oNone, VR.ap_oSome, VR.ap_cTab, VR.ap_tabD, VR.ap_cIsi, VR.ap_nCallP, VR.ap_nLend, VR.ap_callL, VR.ap_lP, VR.ap_lD, VR.ap_lNil, VR.ap_cDIn, VR.ap_dIn1, VR.ap_cEmp, VR.ap_cCmpP, VR.ap_nDisp, VR.ap_dtCons, VR.ap_dtNil, VR.ap_nDictC, VR.ap_nDictS, VR.ap_nListC, VR.ap_nCopyDs, VR.ap_nCopyM, VR.ap_nCatMv, VR.ap_nLstT, VR.ap_tConsM, VR.ap_tNilM, VR.ap_nTupT, VR.ap_nCutMv, VR.ap_cLk, VR.ap_nMv, VR.ap_nMvP, VR.ap_pVar, VR.ap_pIx, VR.ap_pAl, VR.ap_iSeq, VR.ap_nCat, VR.ap_sSeq, VR.ap_sE, VR.ap_sIf, VR.ap_sSet, VR.ap_sSetN, VR.ap_putD, VR.ap_sAsg, VR.ap_gT, VR.ap_gsC, VR.ap_gsN, VR.ap_gN, VR.ap_sDrop, VR.ap_sNil, VR.ap_sRet, VR.ap_sRetN, VR.ap_sRetV, VR.ap_sRaise, VR.ap_sAl, VR.ap_sEd, VR.ap_sKeyT, VR.ap_sDPut, VR.ap_dPut1, VR.ap_sDPutA, VR.ap_dPutA1, VR.ap_sApp, VR.ap_app1, VR.ap_sFldT, VR.ap_sPar, VR.ap_sTryK, VR.ap_sUpd, VR.ap_upd1, VR.ap_sPopK, VR.ap_popK1, VR.ap_sFzP, VR.ap_sUnp, VR.ap_sFor, VR.ap_sSetIx, $xs,*])

section

end



section
set_option Elab.async false
set_option linter.all false
set_option maxRecDepth 100000
namespace SP
open PySem PySem.Spec PyProof.Rows L2 VL SM
structure Crd where
  w : Int
  o : Int
  s : Str
  p : Int
  c : Int
  m : Int
deriving DecidableEq
noncomputable def Crd.D (x : Crd) : PyData := .tuple [.int x.w, .int x.o, .str x.s, .int x.p, .int x.c, .int x.m]
noncomputable def SideOk (s : Str) : Prop := s = sBought ∨ s = sSold
structure CrdOk (n : Int) (x : Crd) : Prop where
  w0 : 0 ≤ x.w
  w1 : x.w < n
  o0 : 0 ≤ x.o
  o1 : x.o < n
  wo : x.w ≠ x.o
  hd : SideOk x.s
  p0 : 0 ≤ x.p
  p1 : x.p ≤ 1000000000
  c0 : 1 ≤ x.c
  c1 : x.c ≤ 1000000
  m0 : 0 ≤ x.m
  m1 : x.m ≤ 1000000000
theorem canB : PyData.canLay0 (.str sBought) = true := by decide +kernel
theorem canS : PyData.canLay0 (.str sSold) = true := by decide +kernel
theorem sh_side {s : Str} (h : SideOk s) {n : Nat} : Sh n (.str s) := by
  rcases h with rfl | rfl
  · exact Sh.str canB
  · exact Sh.str canS
theorem sh_crd {x : Crd} (h : SideOk x.s) : Sh 1 x.D := Sh.tuple fun y hy => by
  simp at hy
  rcases hy with rfl | rfl | rfl | rfl | rfl | rfl <;> first | exact Sh.int | exact sh_side h
noncomputable def Bel (x y : Crd) : Prop := x.w = y.o ∧ x.o = y.w ∧ x.m = y.m
instance {x y : Crd} : Decidable (Bel x y) := by unfold Bel; infer_instance
theorem Bel.symm {x y : Crd} (h : Bel x y) : Bel y x := ⟨h.2.1.symm, h.1.symm, h.2.2.symm⟩
noncomputable def qL (x y : Crd) : List PyData := (if x.s = y.s then [.str s_side] else []) ++ ((if x.p = y.p then [] else [.str s_price]) ++ (if x.c = y.c then [] else [.str s_count]))
theorem belong_ok {x y : Crd} {Q : Tr → List Sl → Prop} (k : ∀ outs, Q (.dat (.bool (decide (Bel x y)))) outs) : okF (F_belong [.val x.D, .val y.D]) Q := by
  refine okF_run ?_
  simp only [entry, List.map_cons, List.map_nil, pinS_val]
  unfold g_belong
  refine okS_ret ?_
  simp [Crd.D]
  by_cases h1 : x.w = y.o
  · by_cases h2 : x.o = y.w
    · by_cases h3 : x.m = y.m
      · simp [h1, h2, h3, Bel] at k ⊢
        exact k _
      · have h3' : (x.m == y.m) = false := by simpa using h3
        simp [h1, h2, h3, h3', Bel] at k ⊢
        exact k _
    · simp [h1, h2, Bel] at k ⊢
      exact k _
  · simp [h1, Bel] at k ⊢
    exact k _
theorem quarrel_ok {x y : Crd} (hx : SideOk x.s) (hy : SideOk y.s) (hb : Bel x y) {Q : Tr → List Sl → Prop} (k : ∀ outs, Q (.dat (.tuple (qL x y))) outs) : okF (F_quarrel_of [.val x.D, .val y.D]) Q := by
  refine okF_run ?_
  simp only [entry, List.map_cons, List.map_nil, pinS_val]
  unfold g_quarrel_of
  rw [okS_seq]
  refine okS_if ?_
  simp [-okM_callN, List.replicate]
  refine okM_pure2 (belong_ok fun outs => ?_)
  simp [hb]
  rw [okS_seq]
  refine okS_setN ?_
  simp
  have sx := (sh_side hx (n := 1)).ok
  have sy := (sh_side hy (n := 1)).ok
  have step : ∀ {c : M Bool} {z : PyData} {b : Bool} {xs : List PyData} {h : MS} {P : Out → Prop}, xs.length ≤ 5 → okM (c [.val x.D, .val y.D, .own .free (tr xs)]) (fun v ρ => v = b ∧ ρ = [.val x.D, .val y.D, .own .free (tr xs)]) → okS (h [.val x.D, .val y.D, .own .free (tr (xs ++ if b then [z] else []))]) P →
      okS (sSeq (sIf c (sApp [] (pVar 2) (nDat (cD z))) sNil) h [.val x.D, .val y.D, .own .free (tr xs)]) P := by
    intro c z b xs h P hl hc k
    rw [okS_seq]
    refine okS_if (okM_mono hc ?_)
    rintro v ρ ⟨rfl, rfl⟩
    cases v with
    | true =>
      rw [if_pos rfl]
      refine app_ok (m := .free) (m' := .free) rfl rfl (by omega) (by simp) ?_
      simp
      exact k
    | false =>
      rw [if_neg Bool.false_ne_true, okS_nil, nxt_nx]
      simpa using k
  refine step (b := decide (x.s = y.s)) (xs := []) (by simp) (by simp [Crd.D, sx, sy]; rw [Bool.eq_iff_iff, beq_iff_eq, decide_eq_true_eq]) ?_
  refine step (b := !decide (x.p = y.p)) (by simp; split <;> simp) (by simp [Crd.D]; rw [Bool.eq_iff_iff, beq_iff_eq, decide_eq_true_eq]) ?_
  refine step (b := !decide (x.c = y.c)) (by simp; split <;> split <;> simp) (by simp [Crd.D]; rw [Bool.eq_iff_iff, beq_iff_eq, decide_eq_true_eq]) ?_
  refine okS_ret ?_
  have e : (([] ++ if decide (x.s = y.s) = true then [PyData.str s_side] else []) ++ (if (!decide (x.p = y.p)) = true then [PyData.str s_price] else [])) ++ (if (!decide (x.c = y.c)) = true then [PyData.str s_count] else []) = qL x y := by
    unfold qL
    by_cases h1 : x.s = y.s <;> by_cases h2 : x.p = y.p <;> by_cases h3 : x.c = y.c <;> simp [h1, h2, h3]
  rw [e]
  simp
  exact k _
noncomputable def qD (x y : Crd) : PyData := if Bel x y then .tuple (qL x y) else .none
theorem repL1 {z : PyData} {q : Prop} [Decidable q] : repL [z] (if q then 1 else 0) = if q then [z] else [] := by split <;> simp [repL]
theorem repOk1 {z : PyData} {q : Prop} [Decidable q] : repOk [z] (if q then 1 else 0) = true := by split <;> simp [repOk] <;> decide
theorem law_quarrel_ok {x y : Crd} (hx : SideOk x.s) (hy : SideOk y.s) {Q : Tr → List Sl → Prop} (k : ∀ outs, Q (.dat (qD x y)) outs) : okF (F__law_quarrel [.val x.D, .val y.D]) Q := by
  have sx := (sh_side hx (n := 1)).ok
  have sy := (sh_side hy (n := 1)).ok
  have si : ∀ a b c : Int, SeqAt.shaped (.tuple [.int a, .int b, .int c]) = true := fun a b c => (Sh.tuple (n := 0) (fun x hx => by simp at hx; rcases hx with rfl | rfl | rfl <;> exact Sh.int)).ok
  have se : ∀ a b c d e f : Int, PyData.eqv (.tuple [.int a, .int b, .int c]) (.tuple [.int d, .int e, .int f]) = decide (a = d ∧ b = e ∧ c = f) := fun a b c d e f => by
    simp [PyData.eqv, PyData.eqvAll]
    by_cases h1 : a = d <;> by_cases h2 : b = e <;> by_cases h3 : c = f <;> simp [h1, h2, h3]
  refine okF_run ?_
  simp only [entry, List.map_cons, List.map_nil, pinS_val]
  unfold g__law_quarrel
  rw [okS_seq]
  refine okS_if ?_
  simp [Crd.D, List.replicate, si, se]
  by_cases hb : Bel x y
  · have hb' : x.w = y.o ∧ x.o = y.w ∧ x.m = y.m := hb
    rw [if_pos hb']
    rw [okS_seq]
    refine okS_set ?_
    have e1 : (if (x.s == y.s) = true then (1 : Int) else 0) = if x.s = y.s then 1 else 0 := by simp
    simp [sx, sy, repL1, repOk1]
    refine ⟨by split <;> split <;> simp, ?_⟩
    refine okS_ret ?_
    simp [repL1, repOk1]
    refine ⟨by split <;> split <;> split <;> simp, ?_⟩
    have e : (if x.s = y.s then [PyData.str s_side] else []) ++ ((if x.p = y.p then [] else [PyData.str s_price]) ++ (if x.c = y.c then [] else [PyData.str s_count])) = qL x y := rfl
    unfold qD at k
    rw [if_pos hb] at k
    exact k _
  · have hb' : ¬ (x.w = y.o ∧ x.o = y.w ∧ x.m = y.m) := hb
    rw [if_neg hb']
    refine okS_ret ?_
    simp
    unfold qD at k
    rw [if_neg hb] at k
    exact k _
end SP

end

section
set_option Elab.async false
set_option linter.all false
set_option maxRecDepth 100000
namespace SP
open PySem PySem.Spec PyProof.Rows L2 VL SM
end SP

end

section
set_option Elab.async false
set_option linter.all false
set_option maxRecDepth 100000
set_option maxHeartbeats 1000000
namespace SH
open PySem PySem.Spec PyProof.Rows L2 VL SM SP
theorem of_okF1 {o : Option (FR × List Sl)} {a : Tr} (h : okF o fun t _ => t = a) : ∃ b, o = some (.ret a, b) := by
  obtain ⟨t, outs, e, rfl⟩ := h
  exact ⟨_, e⟩
section
variable {z s : Int} {x y : S} {p : Past} {md : Md} {n : Nat} {g : Bg}
structure WdOk (g : Bg) : Prop where
  w : g.wd = s_x ∨ g.wd = s_done ∨ g.wd = s_void
  l : g.inn.length ≤ 2
end
end SH

end

section
set_option Elab.async false
set_option linter.all false
set_option maxRecDepth 100000
set_option maxHeartbeats 1000000
namespace SH
open PySem PySem.Spec PyProof.Rows L2 VL SM SP
section
variable {x0 x1 x2 : PyData} {xs : List PyData}
end
section
variable {z s : Int} {x y : S} {p : Past} {md : Md} {n : Nat} {g : Bg}
noncomputable def done1 (x : S) (n : Nat) (g : Bg) (pr ct : Int) : S := { x with made := x.made.set n { g with wd := s_done }, dl := x.dl ++ [.tuple [.int (if g.u1 = true then g.b else g.a), .int (if g.u1 = true then g.a else g.b), .int pr, .int ct, .int g.mo]], up := x.up ++ [.tuple [.int g.mo, .int pr, .int ct]] }
end
end SH

end

section
set_option Elab.async false
set_option linter.all false
set_option maxRecDepth 100000
set_option maxHeartbeats 1000000
namespace SH
open PySem PySem.Spec PyProof.Rows L2 VL SM SP
noncomputable def Bg.q2 (g : Bg) : Bool := !decide (g.p1 = g.p2)
noncomputable def Bg.q3 (g : Bg) : Bool := !decide (g.c1 = g.c2)
noncomputable def Bg.cm (g : Bg) : Crd := ⟨g.a, g.b, sdS g.u1, g.p1, g.c1, g.mo⟩
noncomputable def Bg.ct (g : Bg) : Crd := ⟨g.b, g.a, sdS g.u2, g.p2, g.c2, g.mo⟩
section
variable {z s : Int} {x y : S} {p : Past} {md : Md} {n : Nat} {g : Bg}
end
end SH

end

section
set_option Elab.async false
set_option linter.all false
set_option maxRecDepth 100000
set_option maxHeartbeats 1000000
namespace SH
open PySem PySem.Spec PyProof.Rows L2 VL SM SP
inductive Way where
  | void
  | done (p c : Int)
  | left
noncomputable def Way.d : Way → PyData
  | .void => .tuple [.str s_void]
  | .done p c => .tuple [.str s_done, .int p, .int c]
  | .left => .tuple [.str s_left]
section
variable {z s : Int} {x y : S} {p : Past} {md : Md} {n : Nat} {g : Bg}
end
end SH

end

section
set_option Elab.async false
set_option linter.all false
set_option maxRecDepth 100000
set_option maxHeartbeats 1000000
namespace SH
open PySem PySem.Spec PyProof.Rows L2 VL SM SP
theorem of_okM {α : Type} {o : Option (Er α)} {a : α} {ρ : Rho} (h : okM o fun b r => b = a ∧ r = ρ) : o = some (.ok a ρ) := by
  obtain ⟨b, r, e, rfl, rfl⟩ := h
  exact e
theorem comp_eq {α : Type} {D : α → PyData} {ds : List α} {fi : M (List PyData)} {v : Nat} {tt : M Bool} {te : M Rv} {ρ : Rho} {s : Sl} (p : α → Bool) (f : α → PyData) (hi : fi ρ = some (.ok (ds.map D) ρ)) (hl : ds.length ≤ 16777216) (hv : ρ[v]? = some s) (hs : unown s = true)
    (ht : ∀ d ∈ ds, tt (ρ.set v (.val (D d))) = some (.ok (p d) (ρ.set v (.val (D d))))) (he : ∀ d ∈ ds, p d = true → te (ρ.set v (.val (D d))) = some (.ok (.d (f d)) (ρ.set v (.val (D d))))) : nComp fi [v] (gN v) tt te ρ = some (.ok (.lst (((ds.filter p).map f).map .dat)) ρ) :=
  of_okM (okM_compM p f hi hl hv hs ht he ⟨rfl, rfl⟩)
theorem toD_ds {ds : List PyData} : Tr.toD (.lst (ds.map .dat)) = some (.list ds) := by
  show (Tr.toDs (ds.map .dat)).map PyData.list = _
  rw [toDs_dat]; rfl
noncomputable def oth (l : List (Int × Int × Int)) (i : Int) : List (Int × Int × Int) := l.filter fun r => !decide (r.1 = i)
section
variable {z s : Int} {x y : S} {p : Past} {md : Md} {n : Nat} {g : Bg}
section
variable {i pr ct : Int} (h : F_Hall_need_theirs [.own .pin (HT z s x p), .val (.int i), .val (.int (n : Nat))] = some (.ret (.dat .none), [.own .pin (HT z s x p), .val (.int i), .val (.int (n : Nat))])) (hg : x.made[n]? = some g) (hw : WdOk g)
end
end
end SH

end

section
set_option Elab.async false
set_option linter.all false
set_option maxRecDepth 100000
namespace SP
open PySem PySem.Spec PyProof.Rows L2 VL SM
noncomputable def sgD (a : Str) (b c : Int) (d : Str) : PyData := .tuple [.str a, .int b, .int c, .str d]
structure SgOk (a : Str) (b c : Int) (d : Str) : Prop where
  ha : a = sIn ∨ a = sOut
  b0 : 0 ≤ b
  b9 : b ≤ 9
  c1 : 1 ≤ c
  c9 : c ≤ 9
  hd : d = sChin ∨ d = sBrow
end SP

end

section
set_option Elab.async false
set_option linter.all false
set_option maxRecDepth 100000
namespace SP
open PySem PySem.Spec PyProof.Rows L2 VL SM
noncomputable def meantZ (c f : Int) : Int := if (f - c) % 10 ≤ 5 then c + (f - c) % 10 else if c ≥ 10 - (f - c) % 10 then c - (10 - (f - c) % 10) else c + (f - c) % 10
inductive JM (c f : Int) (i : Nat) : Rho → Prop where
  | mk {s : Sl} (h : frB (some s) = true) (hn : ∀ j : Nat, j < i → ¬ (c + j) % 10 = f ∧ ¬ ((j : Int) ≤ c ∧ (c - j) % 10 = f)) : JM c f i [.val (.int c), .val (.int f), s]
end SP

end

section
set_option Elab.async false
set_option linter.all false
set_option maxRecDepth 100000
namespace SP
open PySem PySem.Spec PyProof.Rows L2 VL SM
section
variable {z s : Int} {x y : St} {p q : List (St × PyData)} {m m2 : Md} {os : List Of}
noncomputable def Of.Ok (o : Of) : Prop := SgOk o.a o.b o.c o.d
noncomputable def after (o : Of) (os : List Of) : List Of := (os.filter fun e => !mine o.mem o.a e) ++ [o]
end
end SP

end

section
set_option Elab.async false
set_option linter.all false
set_option maxRecDepth 100000
set_option maxHeartbeats 1000000
namespace SH
open PySem PySem.Spec PyProof.Rows L2 VL SM SP
structure HeldOk (os : List Of) (off : Int) : Prop where
  up : os.Pairwise fun a b => a.n < b.n
  lt : ∀ o ∈ os, 0 ≤ o.n ∧ o.n < off
  ok : ∀ o ∈ os, o.Ok
  len : os.length < 10000
section
variable {z s : Int} {x y : S} {p : Past} {md : Md} {n : Nat} {g : Bg}
end
end SH

end

section
set_option Elab.async false
set_option linter.all false
set_option maxRecDepth 100000
set_option maxHeartbeats 1000000
namespace SH
open PySem PySem.Spec PyProof.Rows L2 VL SM SP
theorem seq_nx {g h : MS} {ρ ρ1 : Rho} (e : g ρ = some (.nx ρ1)) : sSeq g h ρ = h ρ1 := by
  unfold sSeq
  rw [e]
theorem rng1 {f : M (List Rv)} {ρ : Rho} {n : Nat} (h : f ρ = some (.ok [.d (.int (n : Nat))] ρ)) (hn : n < 100000) : iRange1 f ρ = some (.ok ((List.range n).map fun k => .int (0 + (k : Nat))) ρ) := by
  unfold iRange1 bnd
  rw [h]
  show (if -(2 ^ 62) ≤ ((n : Nat) : Int) ∧ ((n : Nat) : Int) < 2 ^ 62 then some (Er.ok (rangeD 0 ((n : Nat) : Int).toNat) ρ) else none) = _
  rw [if_pos (by omega)]
  rfl
section
variable {z s : Int} {x y : S} {p : Past} {md : Md} {n : Nat} {g : Bg}
end
end SH

end

section
set_option Elab.async false
set_option linter.all false
set_option maxRecDepth 100000
set_option maxHeartbeats 1000000
namespace SH
open PySem PySem.Spec PyProof.Rows L2 VL SM SP
section
variable {z s : Int} {x y : S} {p : Past} {md : Md} {n : Nat} {g : Bg}
noncomputable def holdS (x : S) (o : Of) : S := { x with held := after o x.held, off := o.n + 1 }
end
end SH

end

section
set_option Elab.async false
set_option linter.all false
set_option maxRecDepth 100000
set_option maxHeartbeats 1000000
namespace SH
open PySem PySem.Spec PyProof.Rows L2 VL SM SP
section
variable {z s : Int} {x y : S} {p : Past} {md : Md} {n : Nat} {g : Bg}
end
end SH

end

section
set_option Elab.async false
set_option linter.all false
set_option maxRecDepth 100000
set_option maxHeartbeats 1000000
namespace SH
open PySem PySem.Spec PyProof.Rows L2 VL SM SP
section
variable {z s : Int} {x y : S} {p : Past} {md : Md} {n : Nat} {g : Bg}
end
end SH

end

section
set_option Elab.async false
set_option linter.all false
set_option maxRecDepth 100000
namespace SH
open PySem PySem.Spec PyProof.Rows L2 VL SM SP
end SH

end

section

end



section
set_option Elab.async false
set_option linter.all false
set_option maxRecDepth 100000
set_option maxHeartbeats 1000000
namespace SH
open PySem PySem.Spec PyProof.Rows L2 VL SM SP
theorem setSl_f {ρ : Rho} {i : Nat} {s : Sl} (h : frB ρ[i]? = true) : setSl ρ i s = some (ρ.set i s) := by
  unfold setSl
  split
  · rename_i h1; rw [h1] at h; cases h
  · rename_i h1; rw [h1] at h; cases h
  · rename_i h1; rw [h1] at h; cases h
  · rfl
  · rename_i h1; rw [h1] at h; cases h
section
variable {z s : Int} {x y : S} {p : Past} {md : Md} {n : Nat} {g : Bg} {rest : Rho}
end
end SH

end

section
set_option Elab.async false
set_option linter.all false
set_option maxRecDepth 100000
set_option maxHeartbeats 1000000
namespace SH
open PySem PySem.Spec PyProof.Rows L2 VL SM SP
inductive Cl where
  | hold (i : Int) (d : PyData)
  | lower (i : Int) (a : Str)
  | take (i o : Int) (lk sw se : PyData)
  | inn (i n : Int)
  | settle (n : Int)
  | cons (i n pr ct : Int)
  | pass (t : Int)
  | close
  | back
noncomputable def Cl.d : Cl → PyData
  | .hold i d => .tuple [.str s_hold, .int i, d]
  | .lower i a => .tuple [.str s_lower, .int i, .str a]
  | .take i o lk sw se => .tuple [.str s_take, .int i, .int o, lk, sw, se]
  | .inn i n => .tuple [.str sIn, .int i, .int n]
  | .settle n => .tuple [.str s_settle, .int n]
  | .cons i n pr ct => .tuple [.str s_consent, .int i, .int n, .int pr, .int ct]
  | .pass t => .tuple [.str s_pass, .int t]
  | .close => .tuple [.str s_close]
  | .back => .tuple [.str s_back]
section
variable {z s : Int} {x y : S} {p : Past} {md : Md} {n : Nat} {g : Bg} {rest : Rho}
end
end SH

end

section
set_option Elab.async false
set_option linter.all false
set_option maxRecDepth 100000
set_option maxHeartbeats 1000000
namespace SH
open PySem PySem.Spec PyProof.Rows L2 VL SM SP
section
variable {z s : Int} {x y : S} {p : Past} {md : Md} {n : Nat} {g : Bg} {rest : Rho}
theorem pow8 : powD (.int 10) (.int 8) = some (.int 100000000) := by kernel_rfl
end
end SH

end

section
set_option Elab.async false
set_option linter.all false
set_option maxRecDepth 100000
set_option maxHeartbeats 1000000
namespace SH
open PySem PySem.Spec PyProof.Rows L2 VL SM SP
section
variable {z s : Int} {x y : S} {p : Past} {md : Md} {n : Nat} {g : Bg} {rest : Rho}
end
end SH

end

section
set_option Elab.async false
set_option linter.all false
set_option maxRecDepth 100000
set_option maxHeartbeats 1000000
namespace SH
open PySem PySem.Spec PyProof.Rows L2 VL SM SP
noncomputable def putco (l : List (Int × Int × Int)) (i pr ct : Int) : List (Int × Int × Int) := if (l.any fun r => decide (r.1 = i)) = true then l.map (fun r => if r.1 = i then (i, pr, ct) else r) else l ++ [(i, pr, ct)]
theorem putco_mem {l : List (Int × Int × Int)} {i pr ct : Int} {r : Int × Int × Int} : r ∈ putco l i pr ct ↔ (r ∈ l ∧ r.1 ≠ i) ∨ r = (i, pr, ct) := by
  unfold putco
  split
  · rename_i h
    rw [List.any_eq_true] at h
    obtain ⟨q, hq, e⟩ := h
    have e : q.1 = i := by simpa using e
    rw [List.mem_map]
    constructor
    · rintro ⟨u, hu, rfl⟩
      by_cases h : u.1 = i
      · rw [if_pos h]; exact .inr rfl
      · rw [if_neg h]; exact .inl ⟨hu, h⟩
    · rintro (⟨h1, h2⟩ | rfl)
      · exact ⟨r, h1, if_neg h2⟩
      · exact ⟨q, hq, if_pos e⟩
  · rename_i h
    rw [List.mem_append, List.mem_singleton]
    constructor
    · rintro (h1 | h1)
      · refine .inl ⟨h1, fun e => h (List.any_eq_true.mpr ⟨r, h1, by simpa using e⟩)⟩
      · exact .inr h1
    · rintro (⟨h1, _⟩ | h1)
      · exact .inl h1
      · exact .inr h1
theorem putco_nd {l : List (Int × Int × Int)} {i pr ct : Int} (h : (l.map (·.1)).Nodup) : ((putco l i pr ct).map (·.1)).Nodup := by
  unfold putco
  split
  · have : (l.map fun r => if r.1 = i then (i, pr, ct) else r).map (·.1) = l.map (·.1) := by
      rw [List.map_map]
      refine List.map_congr_left fun r _ => ?_
      show (if r.1 = i then (i, pr, ct) else r).1 = r.1
      split
      · rename_i h; exact h.symm
      · rfl
    rw [this]
    exact h
  · rename_i hh
    rw [List.map_append, List.nodup_append]
    refine ⟨h, by simp, fun a ha b hb e => hh ?_⟩
    obtain ⟨r, hr, rfl⟩ := List.mem_map.mp ha
    have hb : b = i := by simpa using hb
    exact List.any_eq_true.mpr ⟨r, hr, by simp [e, hb]⟩
structure CoOk (g : Bg) : Prop where
  nd : (g.co.map (·.1)).Nodup
  nh : (g.ch.map (·.1)).Nodup
  eq : ∀ r, r ∈ g.co ↔ r ∈ g.ch
  len : g.co.length ≤ 100
  lnh : g.ch.length ≤ 99
section
variable {z s : Int} {x y : S} {p : Past} {md : Md} {n : Nat} {g : Bg} {rest : Rho} {t u : Tr}
end
end SH

end

section
set_option Elab.async false
set_option linter.all false
set_option maxRecDepth 100000
set_option maxHeartbeats 1000000
namespace SH
open PySem PySem.Spec PyProof.Rows L2 VL SM SP
section
variable {z s : Int} {x y : S} {p : Past} {md : Md} {n : Nat} {g : Bg} {rest : Rho} {t u : Tr}
end
end SH

end

section
set_option Elab.async false
set_option linter.all false
set_option maxRecDepth 100000
set_option maxHeartbeats 1000000
namespace SH
open PySem PySem.Spec PyProof.Rows L2 VL SM SP
noncomputable def alks (d : PyData) : List PyData := match F_alikes [.val d] with
  | some (.ret (.lst ts), _) => (flat ts).getD []
  | _ => []
noncomputable def isSgB (d : PyData) : Bool := match F_is_sign [.val d] with
  | some (.ret (.dat (.bool b)), _) => b
  | _ => false
noncomputable def isShB (d : PyData) : Bool := match F_is_showing [.val d] with
  | some (.ret (.dat (.bool b)), _) => b
  | _ => false
noncomputable def lotsD (d : PyData) : Int := match F_lots_of [.val d] with
  | some (.ret (.dat (.int i)), _) => i
  | _ => 0
structure ShOk (c : Int) (d : Str) : Prop where
  c1 : 1 ≤ c
  c9 : c ≤ 9
  hd : d = sChin ∨ d = sBrow
structure TS (d : PyData) : Prop where
  f : ∃ outs, F_is_sign [.val d] = some (.ret (.dat (.bool (isSgB d))), outs)
  g : isSgB d = true → IsSign d
  s : Sh 4 d
structure TW (d : PyData) : Prop where
  f : ∃ outs, F_is_showing [.val d] = some (.ret (.dat (.bool (isShB d))), outs)
  g : isShB d = true → IsShow d
  s : Sh 4 d
structure AlOk' (d : PyData) : Prop where
  f : ∃ outs, F_alikes [.val d] = some (.ret (.lst ((alks d).map .dat)), outs)
  s : Sh 1 d
  sa : ∀ e ∈ alks d, Sh 1 e
  l : (alks d).length ≤ 4
end SH

end

section
set_option Elab.async false
set_option linter.all false
set_option maxRecDepth 100000
set_option maxHeartbeats 1000000
namespace SH
open PySem PySem.Spec PyProof.Rows L2 VL SM SP
theorem Of.isSign {o : Of} (h : o.Ok) : IsSign o.sg := .mk h.ha h.b0 h.b9 h.c1 h.c9 h.hd
section
variable {z s : Int} {x y : S} {p : Past} {md : Md} {n : Nat} {g : Bg} {rest : Rho} {t u : Tr} {o : Of} {lk sw se : PyData}
end
end SH

end

section
set_option Elab.async false
set_option linter.all false
set_option maxRecDepth 100000
set_option maxHeartbeats 1000000
namespace SH
open PySem PySem.Spec PyProof.Rows L2 VL SM SP
noncomputable def cntT (o : Of) (se : PyData) : Int := if o.lf < lotsD se then o.lf else lotsD se
noncomputable def newB (x : S) (o : Of) (i c : Int) (a2 : Str) (b2 : Int) (lk sw se : PyData) : Bg := ⟨o.mem, i, o.sg, lk, sw, se, decide (o.a = sIn), !decide (a2 = sIn), o.pr, cntT o se, meantZ c b2, lotsD sw, x.mo, [], s_x, c, [], []⟩
noncomputable def lessN (o : Of) (k : Int) : Of := { o with lf := o.lf - k }
noncomputable def heldT (o : Of) (k : Int) (os : List Of) : List Of := if o.lf = k then os.filter (fun e => decide (e.n ≠ o.n)) else os.map fun e => if e.n = o.n then lessN o k else e
noncomputable def tkS (x : S) (o : Of) (i c : Int) (a2 : Str) (b2 : Int) (lk sw se : PyData) : S := { x with held := heldT o (cntT o se) x.held, made := x.made ++ [newB x o i c a2 b2 lk sw se] }
theorem min2 {a b : Int} : min2D [.int a, .int b] = some (.int (if b < a then b else a)) := rfl
section
variable {z s : Int} {x y : S} {p : Past} {md : Md} {n : Nat} {g : Bg} {rest : Rho} {t u : Tr} {o : Of} {lk sw se : PyData}
end
end SH

end

section
set_option Elab.async false
set_option linter.all false
set_option maxRecDepth 100000
set_option maxHeartbeats 2000000
namespace SH
open PySem PySem.Spec PyProof.Rows L2 VL SM SP
section
variable {z s : Int} {x y : S} {p : Past} {md : Md} {n : Nat} {g : Bg} {rest : Rho} {t u : Tr} {o : Of} {sw se : PyData}
end
end SH

end

section
set_option Elab.async false
set_option linter.all false
set_option maxRecDepth 100000
set_option maxHeartbeats 2000000
namespace SH
open PySem PySem.Spec PyProof.Rows L2 VL SM SP
section
variable {z s : Int} {x y : S} {p : Past} {md : Md} {n : Nat} {g : Bg} {rest : Rho} {t u : Tr} {o : Of} {sw se : PyData}
end
end SH

end

section
set_option Elab.async false
set_option linter.all false
set_option maxRecDepth 100000
set_option maxHeartbeats 2000000
namespace SH
open PySem PySem.Spec PyProof.Rows L2 VL SM SP
section
variable {z s : Int} {x y : S} {p : Past} {md : Md} {n : Nat} {g : Bg} {rest : Rho} {t u : Tr} {o : Of} {sw se : PyData}
end
end SH

end

section
set_option Elab.async false
set_option linter.all false
set_option maxRecDepth 100000
set_option maxHeartbeats 2000000
namespace SH
open PySem PySem.Spec PyProof.Rows L2 VL SM SP
section
variable {z s : Int} {x y : S} {p : Past} {md : Md} {n : Nat} {g : Bg} {rest : Rho} {t u : Tr} {o : Of} {sw se : PyData}
end
end SH

end

section
set_option Elab.async false
set_option linter.all false
set_option maxRecDepth 100000
set_option maxHeartbeats 2000000
namespace SH
open PySem PySem.Spec PyProof.Rows L2 VL SM SP
section
variable {z s : Int} {x y : S} {p : Past} {md : Md} {n : Nat} {g : Bg} {rest : Rho} {t u a b c d a' b' c' d' : Tr}
structure ClOk (c : Cl) : Prop where
  h : ∀ i d, c = .hold i d → TS d
  l : ∀ i a, c = .lower i a → PalmS a
  t : ∀ i o lk sw se, c = .take i o lk sw se → TS lk ∧ TW sw ∧ TW se
end
end SH

end

section
set_option Elab.async false
set_option linter.all false
set_option maxRecDepth 100000
set_option maxHeartbeats 2000000
namespace SH
open PySem PySem.Spec PyProof.Rows L2 VL SM SP
section
variable {z s : Int} {x y : S} {p : Past} {md : Md} {n : Nat} {g : Bg} {rest : Rho}
noncomputable def Cl.w : Cl → Str
  | .hold _ _ => s_hold
  | .lower _ _ => s_lower
  | .take _ _ _ _ _ => s_take
  | .inn _ _ => sIn
  | .settle _ => s_settle
  | .cons _ _ _ _ => s_consent
  | .pass _ => s_pass
  | .close => s_close
  | .back => s_back
theorem Cl.d0 {c : Cl} : subD c.d (.int 0) = some (.str c.w) := by cases c <;> exact VR.sub0
end
end SH

end

section
set_option Elab.async false
set_option linter.all false
set_option maxRecDepth 100000
set_option maxHeartbeats 2000000
namespace SH
open PySem PySem.Spec PyProof.Rows L2 VL SM SP
section
variable {z s : Int} {x y x' : S} {p p' : Past} {md : Md} {n : Nat} {g : Bg} {rest : Rho} {t u : Tr}
end
end SH

end

section
set_option Elab.async false
set_option linter.all false
set_option maxRecDepth 100000
namespace SP
open PySem PySem.Spec PyProof.Rows L2 VL
structure Pr where
  m : Int
  p : Int
  c : Int
noncomputable def Pr.D (x : Pr) : PyData := .tuple [.int x.m, .int x.p, .int x.c]
structure PrOk (x : Pr) : Prop where
  m0 : 0 ≤ x.m
  p0 : 0 ≤ x.p
  p1 : x.p ≤ 1000000000
  c0 : 1 ≤ x.c
  c1 : x.c ≤ 1000000
noncomputable def mx : List Int → Int
  | [] => 0
  | x :: xs => maxI x xs
noncomputable def mn : List Int → Int
  | [] => 0
  | x :: xs => minI x xs
theorem maxI_mem : ∀ (xs : List Int) (x : Int), maxI x xs ∈ x :: xs
  | [], x => by simp [maxI]
  | y :: ys, x => by
    have ih := maxI_mem ys (if y > x then y else x)
    unfold maxI
    rcases List.mem_cons.mp ih with e | e
    · rw [e]; split <;> simp
    · exact List.mem_cons_of_mem _ (List.mem_cons_of_mem _ e)
theorem mx_mem {xs : List Int} (h : xs ≠ []) : mx xs ∈ xs := by
  cases xs with
  | nil => exact absurd rfl h
  | cons x xs => exact maxI_mem xs x
noncomputable def dst (xs : List Int) : List Int := xs.foldl (fun ks x => if x ∈ ks then ks else ks ++ [x]) []
theorem dst_snoc {xs : List Int} {x : Int} : dst (xs ++ [x]) = if x ∈ dst xs then dst xs else dst xs ++ [x] := by
  unfold dst
  rw [List.foldl_append]
  rfl
theorem rev_ind {P : List Int → Prop} (h0 : P []) (hs : ∀ xs x, P xs → P (xs ++ [x])) : ∀ xs, P xs := fun xs => by
  have : ∀ ys : List Int, P ys.reverse := fun ys => by
    induction ys with
    | nil => exact h0
    | cons y ys ih => rw [List.reverse_cons]; exact hs _ _ ih
  have := this xs.reverse
  rwa [List.reverse_reverse] at this
theorem mem_dst {z : Int} : ∀ xs : List Int, z ∈ dst xs ↔ z ∈ xs := rev_ind (by simp [dst]) fun xs x ih => by
  rw [dst_snoc]
  split
  · rename_i h
    rw [ih, List.mem_append, List.mem_singleton]
    exact ⟨Or.inl, fun o => o.elim id fun e => by rw [e]; exact (by
      have := (show x ∈ dst xs from h)
      rw [e] at ih
      exact ih.mp this)⟩
  · rw [List.mem_append, List.mem_append, ih]
theorem dst_len : ∀ xs : List Int, (dst xs).length ≤ xs.length := rev_ind (by simp [dst]) fun xs x ih => by
  rw [dst_snoc]
  split <;> simp <;> omega
noncomputable def grp (k : Int) (ps : List Pr) : List Pr := ps.filter fun x => x.m == k
noncomputable def ms (ps : List Pr) : List Int := ps.map (·.m)
noncomputable def pr (ps : List Pr) : List Int := ps.map (·.p)
noncomputable def lots (ps : List Pr) : Int := (ps.map (·.c)).sum
theorem mem_grp {k : Int} {ps : List Pr} {x : Pr} : x ∈ grp k ps ↔ x ∈ ps ∧ x.m = k := by
  unfold grp
  rw [List.mem_filter, beq_iff_eq]
theorem grp_app {k : Int} {ps qs : List Pr} : grp k (ps ++ qs) = grp k ps ++ grp k qs := by
  unfold grp
  rw [List.filter_append]
theorem grp_ne {k : Int} {ps : List Pr} (h : k ∈ ms ps) : grp k ps ≠ [] := by
  obtain ⟨x, hx, rfl⟩ := List.mem_map.mp h
  exact List.ne_nil_of_mem (mem_grp.mpr ⟨hx, rfl⟩)
theorem pr_ne {ps : List Pr} (h : ps ≠ []) : pr ps ≠ [] := by
  intro e
  exact h (List.map_eq_nil_iff.mp e)
theorem ms_ne {ps : List Pr} (h : ps ≠ []) : ms ps ≠ [] := by
  intro e
  exact h (List.map_eq_nil_iff.mp e)
theorem lots_app {ps qs : List Pr} : lots (ps ++ qs) = lots ps + lots qs := by
  unfold lots
  rw [List.map_append]
  generalize qs.map (·.c) = ys
  induction ps with
  | nil => simp
  | cons x xs ih => simp [ih]; omega
theorem pr_app {ps qs : List Pr} : pr (ps ++ qs) = pr ps ++ pr qs := by simp [pr]
noncomputable def cnt (y : Int) (ps : List Pr) : Int := lots (ps.filter fun x => x.p == y)
theorem cnt_app {y : Int} {ps qs : List Pr} : cnt y (ps ++ qs) = cnt y ps + cnt y qs := by
  unfold cnt
  rw [List.filter_append, lots_app]
theorem cnt_no {y : Int} {ps : List Pr} (h : ¬ y ∈ pr ps) : cnt y ps = 0 := by
  unfold cnt
  rw [List.filter_eq_nil_iff.mpr fun x hx => ?_]
  · rfl
  · rw [beq_iff_eq]
    intro e
    exact h (List.mem_map.mpr ⟨x, hx, e⟩)
noncomputable def late (ps : List Pr) : List Pr := grp (mx (ms ps)) ps
structure Best (qs : List Pr) (x : Int) : Prop where
  i : x ∈ pr qs
  b : ∀ y ∈ pr qs, cnt y qs < cnt x qs ∨ cnt y qs = cnt x qs ∧ y ≤ x
noncomputable def mxm (ps : List Pr) : Int := (ms ps).foldl (fun a m => if m > a then m else a) (-1)
noncomputable def isL (ps : List Pr) (i : Nat) : Bool := match ps[i]? with
  | some x => decide (x.m < mxm (ps.take i))
  | none => false
noncomputable def lat (ps : List Pr) : List Nat := (List.range ps.length).filter (isL ps)
end SP

end

section
set_option Elab.async false
set_option linter.all false
set_option maxRecDepth 100000
namespace SP
open PySem PySem.Spec PyProof.Rows L2 VL SM
noncomputable def dD (ks : List Int) (f : Int → PyData) : List (Key × PyData) := ks.map fun k => (.inl k, f k)
theorem dats_toT {ds : List (Key × PyData)} : dats (toT ds) = some ds := by
  induction ds with
  | nil => rfl
  | cons x ds ih =>
    obtain ⟨k, d⟩ := x
    show (dats (toT ds)).map ((k, d) :: ·) = _
    rw [ih]
    rfl
theorem getK_dD {ks : List Int} {f : Int → PyData} {k : Int} : getK (toT (dD ks f)) (.inl k : Key) = if k ∈ ks then some (.dat (f k)) else none := by
  unfold getK
  induction ks with
  | nil => rfl
  | cons j ks ih =>
    have e : toT (dD (j :: ks) f) = ((.inl j : Key), .dat (f j)) :: toT (dD ks f) := rfl
    rw [e, List.find?_cons]
    by_cases h : j = k
    · subst h; simp
    · have h' : ¬ ((.inl j : Key) = .inl k) := fun e => h (Sum.inl.inj e)
      have h2 : ¬ k = j := fun e => h e.symm
      simp only [h', decide_false]
      rw [ih]
      simp [h2]
theorem lookP_dD {ks : List Int} {f : Int → PyData} {k : Int} : lookP (dD ks f) (.inl k : Key) = if k ∈ ks then some (f k) else none := by
  unfold lookP
  induction ks with
  | nil => rfl
  | cons j ks ih =>
    have e : dD (j :: ks) f = ((.inl j : Key), f j) :: dD ks f := rfl
    rw [e, List.find?_cons]
    by_cases h : j = k
    · subst h; simp
    · have h' : ¬ ((.inl j : Key) = .inl k) := fun e => h (Sum.inl.inj e)
      have h2 : ¬ k = j := fun e => h e.symm
      simp only [h', decide_false]
      rw [ih]
      simp [h2]
theorem dictAt_bk {ks : List Int} {f : Int → PyData} {k : Int} : dictAt (.dk (toT (dD ks f))) (.int k) = some (if k ∈ ks then some (f k) else none) := by
  show (match getK (toT (dD ks f)) (.inl k : Key) with
      | none => some none
      | some (.dat e) => some (some e)
      | some _ => none) = _
  rw [getK_dD]
  by_cases h : k ∈ ks
  · rw [if_pos h, if_pos h]
  · rw [if_neg h, if_neg h]
theorem dictAt_bf {ks : List Int} {f : Int → PyData} {k : Int} : dictAt (.fk (dD ks f)) (.int k) = some (if k ∈ ks then some (f k) else none) := by
  show some (lookP (dD ks f) (.inl k : Key)) = _
  rw [lookP_dD]
theorem putP_dD {ks : List Int} {f : Int → PyData} {k : Int} {d : PyData} : putP (dD ks f) (.inl k : Key) d = dD (if k ∈ ks then ks else ks ++ [k]) fun j => if j = k then d else f j := by
  unfold putP
  have a : ((dD ks f).any fun kv => decide (kv.1 = (.inl k : Key))) = decide (k ∈ ks) := by
    induction ks with
    | nil => rfl
    | cons j ks ih =>
      have e : dD (j :: ks) f = ((.inl j : Key), f j) :: dD ks f := rfl
      rw [e, List.any_cons, ih, Bool.eq_iff_iff]
      simp
      exact ⟨fun o => o.imp (fun e => e.symm) id, fun o => o.imp (fun e => e.symm) id⟩
  rw [a]
  by_cases h : k ∈ ks
  · simp only [h, decide_true, if_true]
    unfold dD
    rw [List.map_map]
    refine List.map_congr_left fun j _ => ?_
    simp only [Function.comp]
    by_cases e : j = k
    · subst e; simp
    · have e' : ¬ ((.inl j : Key) = .inl k) := fun h => e (Sum.inl.inj h)
      simp [e, e']
  · simp only [h, decide_false, if_false, Bool.false_eq_true]
    unfold dD
    rw [List.map_append]
    congr 1
    · refine List.map_congr_left fun j hj => ?_
      have : ¬ j = k := fun e => h (e ▸ hj)
      simp [this]
    · simp
theorem dD_congr {ks : List Int} {f g : Int → PyData} (h : ∀ k ∈ ks, f k = g k) : dD ks f = dD ks g := by
  unfold dD
  exact List.map_congr_left fun k hk => by rw [h k hk]
theorem dD_len {ks : List Int} {f : Int → PyData} : (dD ks f).length = ks.length := by simp [dD]
theorem dput_ok {ρ : Rho} {P : Out → Prop} {i j : Nat} {ks : List Int} {f : Int → PyData} {k : Int} {d : PyData} {fe : M Rv} (hi : ρ[i]? = some (.own .free (.dk (toT (dD ks f))))) (hj : ρ[j]? = some (.val (.int k))) (he : fe ρ = some (.ok (.d d) ρ)) (hl : ks.length ≤ 100000)
    (p : P (.nx (ρ.set i (.own .free (.dk (toT (dD (if k ∈ ks then ks else ks ++ [k]) fun j => if j = k then d else f j))))))) : okS (sDPut [] fe (pVar i) (cVar j) ρ) P := by
  refine okS_dput ?_
  rw [he, okM_ok, rvd_d, okO_some, okM_pVar, hi]
  simp only [okO_some]
  rw [okM_var_val, hj]
  simp only [okO_some, rdSl_val]
  unfold dPut1
  have hm : modeOk ρ i = true := by rw [modeOk_eq, hi]; rfl
  have ht : treeAt ρ (i, []) = some (.dk (toT (dD ks f))) := by rw [treeAt_eq, hi]; exact at_nil
  have hk : keyD (.int k) = some (.inl k) := rfl
  simp only [hm, ht, hk, dats_toT, List.contains_nil, Bool.not_true, Bool.or_self, Bool.false_eq_true, if_false]
  rw [dD_len, if_pos (small_of (by omega)), okS_some, putP_dD, putAt_eq, hi]
  simp only [put_nil]
  exact p
theorem dget2_ok {ρ : Rho} {i j : Nat} {ks : List Int} {f : Int → PyData} {k : Int} {u : PyData} {fx : M Rv} (hi : ρ[i]? = some (.own .free (.dk (toT (dD ks f))))) (hj : ρ[j]? = some (.val (.int k))) (hx : fx ρ = some (.ok (.d u) ρ)) :
    cDGet2 [] (pVar i) (cVar j) fx ρ = some (.ok (.d (if k ∈ ks then f k else u)) ρ) := by
  refine okM_of ?_
  rw [okM_cDGet2, okM_pVar, hi]
  simp only [okO_some, treeAt_eq, hi, at_nil]
  refine ⟨rfl, ?_⟩
  rw [okM_var_val, hj]
  simp only [okO_some, rdSl_val]
  rw [hx, okM_ok]
  refine ⟨rfl, ?_⟩
  simp only [rvd_d, okO_some, hi, dictAt_bk]
  by_cases h : k ∈ ks
  · rw [if_pos h, if_pos h]; exact ⟨rfl, trivial⟩
  · rw [if_neg h, if_neg h]; exact ⟨rfl, trivial⟩
noncomputable def latD (ps : List Pr) : List PyData := (lat ps).map fun i => .int (i : Nat)
inductive JL (ps qs : List Pr) : Rho → Prop where
  | mk {a b : Sl} (ha : frB (some a) = true) (hb : frB (some b) = true) : JL ps qs [.val (.list (ps.map Pr.D)), .val (.int (mxm qs)), .own .free (tr (latD qs)), a, b]
theorem take_snoc {ps : List Pr} {i : Nat} {y : Pr} (h : ps[i]? = some y) : ps.take (i + 1) = ps.take i ++ [y] := by
  rw [List.take_succ, h]
  rfl
noncomputable def rT (k : Int) (ps : List Pr) : List PyData := [.int (mn (pr (grp k ps))), .int (mx (pr (grp k ps))), .int (lots (grp k ps))]
inductive JR (ps qs : List Pr) : Rho → Prop where
  | mk {a b c d e f : Sl} (ha : frB (some a) = true) (ha' : unown a = true) (hb : frB (some b) = true) (hc : frB (some c) = true) (hd : frB (some d) = true) (he : frB (some e) = true) (hf : frB (some f) = true) :
    JR ps qs [.val (.list (ps.map Pr.D)), .own .free (.dk (toT (dD (dst (ms qs)) fun k => .tuple (rT k qs)))), a, b, c, d, e, f]
noncomputable def rowD (ps : List Pr) (k : Int) : PyData := .tuple (.int k :: rT k ps)
theorem grp_snoc {k : Int} {ps : List Pr} {x : Pr} : grp k (ps ++ [x]) = grp k ps ++ if x.m = k then [x] else [] := by
  rw [grp_app]
  congr 1
  unfold grp
  by_cases h : x.m = k <;> simp [h]
end SP

end

section
set_option Elab.async false
set_option linter.all false
set_option maxRecDepth 100000
namespace SP
open PySem PySem.Spec PyProof.Rows L2 VL SM
theorem flt {α : Type} {xs : List α} : xs.filter (fun _ => true) = xs := List.filter_eq_self.mpr fun _ _ => rfl
theorem maxD_i {xs : List Int} (h : xs ≠ []) : VL.maxD [.list (xs.map .int)] = some (.int (mx xs)) := by
  cases xs with
  | nil => exact absurd rfl h
  | cons x xs =>
    show (match intsD ((x :: xs).map .int) with
      | some (n :: ns) => some (PyData.int (maxI n ns))
      | _ => none) = _
    rw [intsD_map]
    rfl
theorem agg {α : Type} {D : α → PyData} {ds : List α} {ρ : Rho} {j v : Nat} {te : M Rv} {s : Sl} {g : List PyData → Option PyData} {z : PyData} (f : α → Int) (hg : g [.list ((ds.map f).map .int)] = some z) (hj : ρ[j]? = some (.val (.list (ds.map D)))) (hl : ds.length ≤ 16777216) (hv : ρ[v]? = some s) (hs : unown s = true)
    (he : ∀ d ∈ ds, te (ρ.set v (.val (D d))) = some (.ok (.d (.int (f d))) (ρ.set v (.val (D d))))) :
    cCall g (aCons (cFrz (nComp (iSeq (cVar j)) [v] (gN v) tYesM te)) aNil) ρ = some (.ok (.d z) ρ) := by
  refine okM_of ?_
  rw [okM_cCall, okM_aCons, okM_cFrz]
  refine okM_compM (fun _ => true) (fun d => .int (f d)) (iSeq_val hj) hl hv hs (fun _ _ => rfl) (fun d hd _ => he d hd) ?_
  have e : (ds.map fun d => PyData.int (f d)) = (ds.map f).map .int := by simp
  rw [flt, toD_lst, toDs_map, Option.map_some, okO_some, okM_aNil, derSs_cons, derS_d, derSs_nil]
  simp only [okO_some]
  rw [e, hg, okO_some]
  exact ⟨rfl, trivial⟩
theorem eqv_cons_nil {x : PyData} {xs : List PyData} : PyData.eqv (.list (x :: xs)) (.list []) = false := by simp [PyData.eqv, PyData.eqvAll]
theorem eqv_ne {xs : List PyData} (h : xs ≠ []) : PyData.eqv (.list xs) (.list []) = false := by
  cases xs with
  | nil => exact absurd rfl h
  | cons x xs => exact eqv_cons_nil
theorem sh_ints {xs : List PyData} (h : ∀ x ∈ xs, ∃ i, x = .int i) : Sh 1 (.tuple xs) := Sh.tuple fun x hx => by obtain ⟨i, rfl⟩ := h x hx; exact Sh.int
theorem sh_row {ps : List Pr} {k : Int} : Sh 1 (rowD ps k) := sh_ints fun x hx => by
  simp [rT] at hx
  rcases hx with rfl | rfl | rfl | rfl <;> exact ⟨_, rfl⟩
theorem sh_pr {x : Pr} : Sh 1 x.D := sh_ints fun y hy => by
  simp at hy
  rcases hy with rfl | rfl | rfl <;> exact ⟨_, rfl⟩
theorem sh_prs {ps : List Pr} : Sh 2 (.list (ps.map Pr.D)) := Sh.list fun x hx => by
  obtain ⟨k, _, rfl⟩ := List.mem_map.mp hx
  exact sh_pr
theorem sh_nil : Sh 2 (.list []) := Sh.list fun x hx => nomatch hx
noncomputable def pT (c : Int → Int) (k : Int) : PyData := .tuple [.int (c k), .int k]
theorem pT_alike {c : Int → Int} {j k : Int} : PySem.W.alike (pT c j) (pT c k) = true := by simp [pT, PySem.W.alike, PySem.W.alikeAll]
theorem ii_alike {a b : Int} : PySem.W.alike (.int a) (.int b) = true := by simp [PySem.W.alike]
theorem pT_lt {c : Int → Int} {j k : Int} : PySem.W.dataLt (pT c j) (pT c k) = decide (c j < c k ∨ c j = c k ∧ j < k) := by
  unfold pT
  rw [PySem.W.dataLt_tuple]
  by_cases h : c j = c k
  · rw [PySem.W.dataLt_all_yes ii_alike (by simp [h])]
    by_cases h2 : j = k
    · rw [PySem.W.dataLt_all_yes ii_alike (by simp [h2])]
      have : ¬ (c j < c k ∨ c j = c k ∧ j < k) := by omega
      rw [decide_eq_false this]
      decide
    · rw [PySem.W.dataLt_all_no ii_alike (by simp [h2]), PySem.W.dataLt_int, decide_eq_decide]
      omega
  · rw [PySem.W.dataLt_all_no ii_alike (by simp [h]), PySem.W.dataLt_int, decide_eq_decide]
    omega
theorem max_pT {c : Int → Int} : ∀ (ks : List Int) (a : Int), ∃ b, PySem.W.maxD (pT c a) (ks.map (pT c)) = pT c b ∧ b ∈ a :: ks ∧ ∀ j ∈ a :: ks, c j < c b ∨ c j = c b ∧ j ≤ b
  | [], a => ⟨a, rfl, by simp, fun j hj => by rw [List.mem_singleton.mp hj]; omega⟩
  | k :: ks, a => by
    have e : PySem.W.maxD (pT c a) ((k :: ks).map (pT c)) = PySem.W.maxD (if PySem.W.dataLt (pT c a) (pT c k) then pT c k else pT c a) (ks.map (pT c)) := rfl
    rw [e, pT_lt]
    by_cases h : c a < c k ∨ c a = c k ∧ a < k
    · rw [if_pos (decide_eq_true h)]
      obtain ⟨b, e1, e2, e3⟩ := max_pT (c := c) ks k
      refine ⟨b, e1, List.mem_cons_of_mem _ e2, fun j hj => ?_⟩
      rcases List.mem_cons.mp hj with e | hj
      · subst e
        have := e3 k (by simp)
        omega
      · exact e3 j hj
    · rw [if_neg (by simpa using h)]
      obtain ⟨b, e1, e2, e3⟩ := max_pT (c := c) ks a
      refine ⟨b, e1, ?_, fun j hj => ?_⟩
      · rcases List.mem_cons.mp e2 with e | e
        · rw [e]; simp
        · exact List.mem_cons_of_mem _ (List.mem_cons_of_mem _ e)
      · rcases List.mem_cons.mp hj with e | hj
        · subst e; exact e3 _ (by simp)
        · rcases List.mem_cons.mp hj with e | hj
          · subst e
            have := e3 a (by simp)
            omega
          · exact e3 j (List.mem_cons_of_mem _ hj)
theorem sh_pT {c : Int → Int} {k : Int} : Sh 1 (pT c k) := sh_ints fun x hx => by
  simp at hx
  rcases hx with rfl | rfl <;> exact ⟨_, rfl⟩
theorem maxOk_pT {c : Int → Int} {ks : List Int} : maxOk (ks.map (pT c)) = true := by
  unfold maxOk
  have sh : ∀ x ∈ ks.map (pT c), Sh 1 x := fun x hx => by
    obtain ⟨k, _, rfl⟩ := List.mem_map.mp hx
    exact sh_pT
  have h := shAll sh
  simp only [Bool.and_eq_true]
  refine ⟨⟨⟨?_, ?_⟩, decide_eq_true (by omega)⟩, ?_⟩
  · refine List.all_eq_true.mpr fun x hx => List.all_eq_true.mpr fun y hy => ?_
    obtain ⟨k, _, rfl⟩ := List.mem_map.mp hx
    obtain ⟨j, _, rfl⟩ := List.mem_map.mp hy
    exact pT_alike
  · refine List.all_eq_true.mpr fun x hx => ?_
    obtain ⟨k, _, rfl⟩ := List.mem_map.mp hx
    rfl
  · exact List.all_eq_true.mpr fun x hx => (sh x hx).c
inductive JC (ps qs : List Pr) (L f0 : Int) : Rho → Prop where
  | mk {a b c d : Sl} (ha : unown a = true) (ha' : frB (some a) = true) (hb : frB (some b) = true) (hc : frB (some c) = true) (hc' : unown c = true) (hd : frB (some d) = true) :
    JC ps qs L f0 [.val (.list (ps.map Pr.D)), .val (.int f0), .val (.int L), a, .own .free (.dk (toT (dD (dst (pr (grp L qs))) fun y => .int (cnt y (grp L qs))))), b, c, d]
theorem called_ok {ps : List Pr} {f0 : Int} (hl : ps.length ≤ 1000) (hp : ps ≠ []) {Q : Tr → List Sl → Prop} (k : ∀ x outs, Best (late ps) x → Q (.dat (.int x)) outs) : okF (F_called_price [.val (.list (ps.map Pr.D)), .val (.int f0)]) Q := by
  refine okF_run ?_
  simp only [entry, List.map_cons, List.map_nil, pinS_val]
  unfold g_called_price
  rw [okS_seq]
  refine okS_if ?_
  have pne : ps.map Pr.D ≠ [] := fun e => hp (List.map_eq_nil_iff.mp e)
  simp [-List.map_map, List.replicate, sh_nil.ok, sh_prs.ok, eqv_ne pne]
  rw [okS_seq]
  refine okS_set (okM_eq (agg (D := Pr.D) (ds := ps) (z := .int (mx (ms ps))) (fun x => x.m) (by rw [maxD_i fun e => hp (List.map_eq_nil_iff.mp e)]; rfl) rfl (by omega) rfl rfl fun d _ => okM_of (by simp [Pr.D])) ?_)
  simp [-List.map_map]
  rw [okS_seq]
  refine okS_setN ?_
  simp [-List.map_map]
  rw [okS_seq]
  generalize hL : mx (ms ps) = L
  refine okS_for (fun i => JC ps (ps.take i) L f0) (xs := ps.map Pr.D) ?_ ?_ ?_
  · simp
    exact ⟨rfl, rfl, rfl, rfl, rfl, rfl⟩
  · intro i x ρ hx hJ
    rw [List.getElem?_map] at hx
    obtain ⟨y, hy, rfl⟩ := Option.map_eq_some_iff.mp hx
    rw [take_snoc hy]
    generalize hq : ps.take i = qs at hJ
    have ql : qs.length ≤ 1000 := by rw [← hq, List.length_take]; omega
    have gl : (grp L qs).length ≤ 1000 := Nat.le_trans (List.length_filter_le _ _) ql
    have kl : (dst (pr (grp L qs))).length ≤ 1000 := Nat.le_trans (dst_len _) (by simpa [pr] using gl)
    cases hJ with
    | @mk a b c d h3 h3' h5 h6 h6' h7 =>
      simp [-List.map_map, h5, h6, h7, Pr.D]
      unfold b_called_price_0
      refine okS_if ?_
      simp [-List.map_map]
      by_cases h : y.m = L
      · rw [if_pos h]
        refine dput_ok (ks := dst (pr (grp L qs))) (f := fun y => .int (cnt y (grp L qs))) rfl rfl (d := .int (cnt y.p (grp L qs ++ [y]))) (okM_of ?_) (by omega) ?_
        · rw [okM_cBin]
          refine okM_eq (dget2_ok (ks := dst (pr (grp L qs))) (f := fun y => .int (cnt y (grp L qs))) rfl rfl (u := .int 0) rfl) ?_
          have e : cnt y.p (grp L qs ++ [y]) = (if y.p ∈ dst (pr (grp L qs)) then cnt y.p (grp L qs) else 0) + y.c := by
            rw [cnt_app]
            have : cnt y.p [y] = y.c := by simp [cnt, lots]
            rw [this]
            split
            · rfl
            · rename_i h2
              rw [cnt_no fun z => h2 ((mem_dst _).mpr z)]
          have e2 : (if y.p ∈ dst (pr (grp L qs)) then PyData.int (cnt y.p (grp L qs)) else .int 0) = .int (if y.p ∈ dst (pr (grp L qs)) then cnt y.p (grp L qs) else 0) := by split <;> rfl
          simp only [e2]
          simp [e]
        · rw [turn_nx]
          have eg : grp L (qs ++ [y]) = grp L qs ++ [y] := by rw [grp_snoc, if_pos h]
          have fin : dD (if y.p ∈ dst (pr (grp L qs)) then dst (pr (grp L qs)) else dst (pr (grp L qs)) ++ [y.p]) (fun j => if j = y.p then PyData.int (cnt y.p (grp L qs ++ [y])) else .int (cnt j (grp L qs))) = dD (dst (pr (grp L (qs ++ [y])))) fun z => .int (cnt z (grp L (qs ++ [y]))) := by
            rw [eg, pr_app, show pr [y] = [y.p] from rfl, dst_snoc]
            refine dD_congr fun z _ => ?_
            by_cases hz : z = y.p
            · rw [if_pos hz, hz]
            · rw [if_neg hz, cnt_app]
              have : cnt z [y] = 0 := cnt_no (by simpa [pr] using hz)
              rw [this, Int.add_zero]
          rw [fin]
          exact ⟨h3, h3', rfl, rfl, rfl, rfl⟩
      · rw [if_neg h]
        have eg : grp L qs = grp L (qs ++ [y]) := by rw [grp_snoc, if_neg h, List.append_nil]
        rw [eg]
        exact ⟨h3, h3', rfl, rfl, rfl, rfl⟩
  · intro ρ hJ
    rw [List.length_map, List.take_length] at hJ
    have lk : late ps = grp L ps := by rw [← hL]; rfl
    rw [lk] at k
    have hne : pr (grp L ps) ≠ [] := pr_ne (grp_ne (by rw [← hL]; exact mx_mem (ms_ne hp)))
    generalize hg : grp L ps = qs at hJ k hne
    have ql : qs.length ≤ 1000 := by rw [← hg]; exact Nat.le_trans (List.length_filter_le _ _) hl
    have kl : (dst (pr qs)).length ≤ 1000 := Nat.le_trans (dst_len _) (by simpa [pr] using ql)
    have kne : dst (pr qs) ≠ [] := List.ne_nil_of_mem ((mem_dst _).mpr (mx_mem hne))
    cases hJ with
    | @mk a b c d h3 h3' h5 h6 h6' h7 =>
      rw [hg]
      rw [nxt_nx]
      refine okS_ret ?_
      rw [okM_nDat, okM_cBin, okM_cCall, okM_aCons, okM_cFrz]
      refine okM_lock (m := .free) (ts := toT (dD (dst (pr qs)) fun y => .int (cnt y qs))) (ds := dD (dst (pr qs)) fun y => .int (cnt y qs)) rfl (by simp) dats_toT ?_
      refine okM_compM (D := PyData.int) (ds := dst (pr qs)) (fun _ => true) (pT fun y => cnt y qs) ?_ (by omega) (s := c) rfl h6' (fun _ _ => rfl) (fun z hz _ => okM_of ?_) ?_
      · rw [iKeyF_own (m := .lock) (ds := dD (dst (pr qs)) fun y => .int (cnt y qs)) rfl]
        unfold dD
        rw [List.map_map]
        rfl
      · simp [dictAt_bf, hz]
        rfl
      · rw [flt]
        cases hk : dst (pr qs) with
        | nil => exact absurd hk kne
        | cons z zs =>
          obtain ⟨w, e1, e2, e3⟩ := max_pT (c := fun y => cnt y qs) zs z
          simp [-List.map_map]
          have mo := maxOk_pT (c := fun y => cnt y qs) (ks := z :: zs)
          rw [List.map_cons] at mo
          refine ⟨mo, ?_⟩
          rw [e1]
          simp [pT]
          refine k w _ ⟨(mem_dst _).mp (by rw [hk]; exact e2), fun y hy => ?_⟩
          exact e3 y (by rw [← hk]; exact (mem_dst _).mpr hy)
end SP

end

section
set_option Elab.async false
set_option linter.all false
set_option maxRecDepth 100000
set_option maxHeartbeats 2000000
namespace SH
open PySem PySem.Spec PyProof.Rows L2 VL SM SP
theorem two_le {l : List Int} {a b : Int} (nd : l.Nodup) (h : ∀ i ∈ l, i = a ∨ i = b) : l.length ≤ 2 := by
  match l, nd, h with
  | [], _, _ => simp
  | [_], _, _ => simp
  | [_, _], _, _ => simp
  | u :: v :: w :: r, nd, h =>
    exfalso
    have h1 := h u (by simp)
    have h2 := h v (by simp)
    have h3 := h w (by simp)
    simp only [List.nodup_cons, List.mem_cons, not_or] at nd
    obtain ⟨⟨n1, n2, _⟩, ⟨n3, _⟩, _⟩ := nd
    omega
structure DL where
  s : Int
  b : Int
  p : Int
  c : Int
  m : Int
noncomputable def DL.D (d : DL) : PyData := .tuple [.int d.s, .int d.b, .int d.p, .int d.c, .int d.m]
noncomputable def PB (N : Nat) (p : Int) : Prop := 0 ≤ p ∧ p ≤ 100000000 + 10 * (N : Int)
noncomputable def CB (c : Int) : Prop := 0 ≤ c ∧ c ≤ 1000000
theorem PB.mono {N M : Nat} {p : Int} (h : PB N p) (hm : N ≤ M) : PB M p := ⟨h.1, by have := h.2; omega⟩
structure DLOk (z : Int) (N : Nat) (d : DL) : Prop where
  s0 : 0 ≤ d.s
  s1 : d.s < z
  b0 : 0 ≤ d.b
  b1 : d.b < z
  p : PB N d.p
  c : CB d.c
structure GOk (z : Int) (N : Nat) (g : Bg) : Prop where
  wd : WdOk g
  co : CoOk g
  a0 : 0 ≤ g.a
  a1 : g.a < z
  b0 : 0 ≤ g.b
  b1 : g.b < z
  p1 : PB N g.p1
  p2 : PB N g.p2
  cl : PB N g.cl
  c1 : CB g.c1
  c2 : CB g.c2
  sg : IsSign g.sg
  lk : IsSign g.lk
  sw : IsShow g.sw
  se : IsShow g.se
  im : ∀ i ∈ g.inn, i = g.a ∨ i = g.b
  nd : g.inn.Nodup
  cm : ∀ r ∈ g.ch, r.1 = g.a ∨ r.1 = g.b
structure Inv (z s : Int) (N : Nat) (x : S) : Prop where
  hh : HeldOk x.held x.off
  hm : ∀ o ∈ x.held, 0 ≤ o.mem ∧ o.mem < z ∧ PB N o.pr ∧ 0 ≤ o.lf ∧ o.lf ≤ 90
  off : 0 ≤ x.off ∧ x.off ≤ N
  gs : ∀ g ∈ x.made, GOk z N g
  up : ∃ ps : List Pr, x.up = ps.map Pr.D ∧ ∀ q ∈ ps, PB N q.p
  dl : ∃ ds : List DL, x.dl = ds.map DL.D ∧ ∀ q ∈ ds, DLOk z N q
  lm : x.made.length ≤ N
  lu : x.up.length ≤ N
  ld : x.dl.length ≤ N
  lh : x.held.length ≤ N
section
variable {z s : Int} {x y x' : S} {p p' : Past} {md : Md} {n N : Nat} {g : Bg} {rest : Rho} {t u : Tr}
theorem GOk.mono {M : Nat} (G : GOk z N g) (h : N ≤ M) : GOk z M g := ⟨G.wd, G.co, G.a0, G.a1, G.b0, G.b1, G.p1.mono h, G.p2.mono h, G.cl.mono h, G.c1, G.c2, G.sg, G.lk, G.sw, G.se, G.im, G.nd, G.cm⟩
theorem Inv.mono {M : Nat} (I : Inv z s N x) (h : N ≤ M) : Inv z s M x := ⟨I.hh, fun o ho => ⟨(I.hm o ho).1, (I.hm o ho).2.1, (I.hm o ho).2.2.1.mono h, (I.hm o ho).2.2.2⟩, ⟨I.off.1, by have := I.off.2; omega⟩, fun g hg => (I.gs g hg).mono h, I.up.imp fun ps q => ⟨q.1, fun r hr => (q.2 r hr).mono h⟩, I.dl.imp fun ds q => ⟨q.1, fun r hr => ⟨(q.2 r hr).s0, (q.2 r hr).s1, (q.2 r hr).b0, (q.2 r hr).b1, (q.2 r hr).p.mono h, (q.2 r hr).c⟩⟩, Nat.le_trans I.lm h, Nat.le_trans I.lu h, Nat.le_trans I.ld h, Nat.le_trans I.lh h⟩
theorem called_0 : okF (F_called_price [.val (.list []), .val (.int s)]) fun t _ => t = .dat (.int s) := ⟨.dat (.int s), [.val (.list []), .val (.int s)], by kernel_rfl, rfl⟩
noncomputable def calZ (s : Int) (x : S) : Int := match F_called_price [.val (.list x.up), .val (.int s)] with
  | some (.ret (.dat (.int c)), _) => c
  | _ => 0
theorem Inv.call0 (I : Inv z s N x) (hN : N ≤ 1000) (s0 : PB 0 s) : ∃ c : Int, PB N c ∧ okF (F_called_price [.val (.list x.up), .val (.int s)]) fun t _ => t = .dat (.int c) := by
  obtain ⟨ps, e, h⟩ := I.up
  have hl : ps.length ≤ 1000 := by have := I.lu; rw [e, List.length_map] at this; omega
  rw [e]
  by_cases hp : ps = []
  · subst hp
    exact ⟨s, s0.mono (Nat.zero_le N), called_0⟩
  · obtain ⟨t, outs, e1, c, e2, hb⟩ := called_ok (f0 := s) hl hp (Q := fun t _ => ∃ c, t = .dat (.int c) ∧ Best (late ps) c) (fun c outs hb => ⟨c, rfl, hb⟩)
    refine ⟨c, ?_, t, outs, e1, e2⟩
    have := hb.i
    unfold pr at this
    obtain ⟨q, hq, rfl⟩ := List.mem_map.mp this
    exact h q (List.mem_filter.mp hq).1
theorem Inv.call (I : Inv z s N x) (hN : N ≤ 1000) (s0 : PB 0 s) : ∃ c : Int, c = calZ s x ∧ PB N c ∧ okF (F_called_price [.val (.list x.up), .val (.int s)]) fun t _ => t = .dat (.int c) := by
  obtain ⟨c, h, t, outs, e, rfl⟩ := I.call0 hN s0
  exact ⟨c, by unfold calZ; rw [e], h, _, outs, e, rfl⟩
theorem GOk.word (G : GOk z N g) {w : Str} (hw : w = s_x ∨ w = s_done ∨ w = s_void) : GOk z N { g with wd := w } := ⟨⟨hw, G.wd.l⟩, ⟨G.co.nd, G.co.nh, G.co.eq, G.co.len, G.co.lnh⟩, G.a0, G.a1, G.b0, G.b1, G.p1, G.p2, G.cl, G.c1, G.c2, G.sg, G.lk, G.sw, G.se, G.im, G.nd, G.cm⟩
theorem Inv.set (I : Inv z s N x) (G : GOk z N g) : Inv z s N { x with made := x.made.set n g } := by
  refine ⟨I.hh, I.hm, I.off, fun g' h => ?_, I.up, I.dl, ?_, I.lu, I.ld, I.lh⟩
  · rcases List.mem_or_eq_of_mem_set h with h | rfl
    · exact I.gs g' h
    · exact G
  · show (x.made.set n g).length ≤ N
    rw [List.length_set]
    exact I.lm
theorem Inv.done (I : Inv z s N x) (G : GOk z N g) {pr ct : Int} (hp : PB N pr) (hc : CB ct) : Inv z s (N + 1) (done1 x n g pr ct) := by
  have J := (I.set (n := n) (G.word (w := s_done) (.inr (.inl rfl)))).mono (Nat.le_succ N)
  refine ⟨J.hh, J.hm, J.off, J.gs, ?_, ?_, J.lm, ?_, ?_, J.lh⟩
  · obtain ⟨ps, e, h⟩ := I.up
    refine ⟨ps ++ [⟨g.mo, pr, ct⟩], ?_, fun q hq => ?_⟩
    · show x.up ++ [_] = _
      rw [e, List.map_append]
      rfl
    · rcases List.mem_append.mp hq with hq | hq
      · exact (h q hq).mono (Nat.le_succ N)
      · rw [List.mem_singleton.mp hq]; exact hp.mono (Nat.le_succ N)
  · obtain ⟨ds, e, h⟩ := I.dl
    refine ⟨ds ++ [⟨if g.u1 = true then g.b else g.a, if g.u1 = true then g.a else g.b, pr, ct, g.mo⟩], ?_, fun q hq => ?_⟩
    · show x.dl ++ [_] = _
      rw [e, List.map_append]
      rfl
    · rcases List.mem_append.mp hq with hq | hq
      · have := h q hq
        exact ⟨this.s0, this.s1, this.b0, this.b1, this.p.mono (Nat.le_succ N), this.c⟩
      · rw [List.mem_singleton.mp hq]
        refine ⟨?_, ?_, ?_, ?_, hp.mono (Nat.le_succ N), hc⟩ <;> simp only <;> split <;> first | exact G.a0 | exact G.a1 | exact G.b0 | exact G.b1
  · show (x.up ++ [_]).length ≤ N + 1
    have := I.lu
    simp; omega
  · show (x.dl ++ [_]).length ≤ N + 1
    have := I.ld
    simp; omega
theorem Inv.hold (I : Inv z s N x) (hN : N < 9000) {o : Of} (ho : o.Ok) (hn : o.n = x.off) (h0 : 0 ≤ o.mem) (h1 : o.mem < z) (hp : PB (N + 1) o.pr) (hl0 : 0 ≤ o.lf ∧ o.lf ≤ 90) : Inv z s (N + 1) (holdS x o) := by
  have J := I.mono (Nat.le_succ N)
  have hl : (after o x.held).length ≤ N + 1 := by
    unfold after
    have := List.length_filter_le (fun e => !mine o.mem o.a e) x.held
    have := I.lh
    simp; omega
  have mem : ∀ e ∈ after o x.held, e ∈ x.held ∨ e = o := fun e he => by
    unfold after at he
    rcases List.mem_append.mp he with he | he
    · exact .inl (List.mem_filter.mp he).1
    · exact .inr (List.mem_singleton.mp he)
  refine ⟨⟨?_, fun e he => ?_, fun e he => ?_, by show (after o x.held).length < _; omega⟩, fun e he => ?_, ?_, J.gs, J.up, J.dl, Nat.le_succ_of_le I.lm, Nat.le_succ_of_le I.lu, Nat.le_succ_of_le I.ld, hl⟩
  · show (after o x.held).Pairwise _
    unfold after
    refine List.pairwise_append.mpr ⟨I.hh.up.filter _, List.pairwise_singleton .., fun a ha b hb => ?_⟩
    rw [List.mem_singleton.mp hb, hn]
    exact (I.hh.lt a (List.mem_filter.mp ha).1).2
  · show 0 ≤ e.n ∧ e.n < o.n + 1
    rcases mem e he with h | rfl
    · have := I.hh.lt e h; omega
    · have := I.off.1; omega
  · rcases mem e he with h | rfl
    · exact I.hh.ok e h
    · exact ho
  · rcases mem e he with h | rfl
    · exact J.hm e h
    · exact ⟨h0, h1, hp, hl0⟩
  · show 0 ≤ o.n + 1 ∧ o.n + 1 ≤ ((N + 1 : Nat) : Int)
    have := I.off; omega
theorem heldT_mem {o e : Of} {k : Int} {os : List Of} (h : e ∈ heldT o k os) : e ∈ os ∨ e = lessN o k := by
  unfold heldT at h
  split at h
  · exact .inl (List.mem_filter.mp h).1
  · obtain ⟨q, hq, rfl⟩ := List.mem_map.mp h
    split
    · exact .inr rfl
    · exact .inl hq
theorem Inv.take (I : Inv z s N x) (hN : N < 9000) {o : Of} {i c : Int} {a2 : Str} {b2 c2 : Int} {d2 : Str} {sw se : PyData} (ho : o ∈ x.held) (i0 : 0 ≤ i) (i1 : i < z) (hs : SgOk a2 b2 c2 d2) (h2 : IsShow sw) (h3 : IsShow se) (c0 : PB N c) (hm : PB (N + 1) (meantZ c b2)) (q2 : CB (lotsD sw)) (q3 : CB (lotsD se)) : Inv z s (N + 1) (tkS x o i c a2 b2 (sgD a2 b2 c2 d2) sw se) := by
  have hl : (heldT o (cntT o se) x.held).length ≤ N := by
    unfold heldT
    split
    · exact Nat.le_trans (List.length_filter_le ..) I.lh
    · rw [List.length_map]; exact I.lh
  have J := I.mono (Nat.le_succ N)
  have io := J.hm o ho
  have hcn : CB (cntT o se) ∧ cntT o se ≤ o.lf := by
    unfold cntT CB
    have := io.2.2.2
    have := q3.1
    have := q3.2
    split <;> omega
  refine ⟨⟨?_, fun e he => ?_, fun e he => ?_, by show (heldT o (cntT o se) x.held).length < _; omega⟩, fun e he => ?_, J.off, fun g hg => ?_, J.up, J.dl, ?_, Nat.le_succ_of_le I.lu, Nat.le_succ_of_le I.ld, Nat.le_succ_of_le hl⟩
  · show (heldT o (cntT o se) x.held).Pairwise _
    unfold heldT
    split
    · exact I.hh.up.filter _
    · rw [List.pairwise_map]
      refine I.hh.up.imp ?_
      intro a b h
      have e : ∀ q : Of, (if q.n = o.n then lessN o (cntT o se) else q).n = q.n := fun q => by
        split
        · rename_i h; exact h.symm
        · rfl
      rw [e, e]
      exact h
  · rcases heldT_mem he with h | rfl
    · exact I.hh.lt e h
    · exact I.hh.lt o ho
  · rcases heldT_mem he with h | rfl
    · exact I.hh.ok e h
    · exact I.hh.ok o ho
  · rcases heldT_mem he with h | rfl
    · exact J.hm e h
    · refine ⟨io.1, io.2.1, io.2.2.1, ?_⟩
      show 0 ≤ o.lf - cntT o se ∧ o.lf - cntT o se ≤ 90
      have := io.2.2.2
      have := hcn.1.1
      have := hcn.2
      omega
  · rcases List.mem_append.mp hg with hg | hg
    · exact J.gs g hg
    · rw [List.mem_singleton.mp hg]
      exact ⟨⟨.inl rfl, by show 0 ≤ 2; decide⟩, ⟨.nil, .nil, fun r => Iff.rfl, by show 0 ≤ 100; decide, by show 0 ≤ 99; decide⟩, io.1, io.2.1, i0, i1, io.2.2.1, hm, c0.mono (Nat.le_succ N), hcn.1, q2, Of.isSign (I.hh.ok o ho), .mk hs.ha hs.b0 hs.b9 hs.c1 hs.c9 hs.hd, h2, h3, fun _ h => (nomatch h), .nil, fun _ h => (nomatch h)⟩
  · show (x.made ++ [_]).length ≤ N + 1
    have := I.lm
    simp; omega
end
end SH

end

section
set_option Elab.async false
set_option linter.all false
set_option maxRecDepth 100000
set_option maxHeartbeats 2000000
namespace SH
open PySem PySem.Spec PyProof.Rows L2 VL SM SP
structure Good (d : PyData) : Prop where
  s : Sh 5 d
  b : ∃ e k, d = .tuple [e, .str k] ∧ isiD .bool e = some false
section
variable {z s : Int} {x y x' : S} {p p' : Past} {md : Md} {n N : Nat} {g : Bg} {rest : Rho} {t u : Tr} {c : Cl}
end
end SH

end

section
set_option Elab.async false
set_option linter.all false
set_option maxRecDepth 100000
set_option maxHeartbeats 2000000
namespace SH
open PySem PySem.Spec PyProof.Rows L2 VL SM SP
section
variable {z s : Int} {x y x' : S} {p p' : Past} {md : Md} {n N : Nat} {g : Bg} {rest : Rho} {t u : Tr} {c : Cl}
theorem GOk.inn (G : GOk z N g) {i : Int} (hi : i = g.a ∨ i = g.b) (hn : i ∉ g.inn) : GOk z N { g with inn := g.inn ++ [i] } := by
  have nd : (g.inn ++ [i]).Nodup := by
    rw [List.nodup_append]
    refine ⟨G.nd, by simp, fun a ha b hb e => hn ?_⟩
    rw [← List.mem_singleton.mp hb, ← e]
    exact ha
  have im : ∀ k ∈ g.inn ++ [i], k = g.a ∨ k = g.b := fun k hk => by
    rcases List.mem_append.mp hk with hk | hk
    · exact G.im k hk
    · rw [List.mem_singleton.mp hk]; exact hi
  exact ⟨⟨G.wd.w, two_le nd im⟩, ⟨G.co.nd, G.co.nh, G.co.eq, G.co.len, G.co.lnh⟩, G.a0, G.a1, G.b0, G.b1, G.p1, G.p2, G.cl, G.c1, G.c2, G.sg, G.lk, G.sw, G.se, im, nd, G.cm⟩
theorem oth_mem {l : List (Int × Int × Int)} {i : Int} {r : Int × Int × Int} : r ∈ oth l i ↔ r ∈ l ∧ r.1 ≠ i := by
  unfold oth
  rw [List.mem_filter]
  simp
theorem GOk.con (G : GOk z N g) {i pr ct : Int} (hi : i = g.a ∨ i = g.b) : GOk z N { g with ch := oth g.ch i ++ [(i, pr, ct)], co := putco g.co i pr ct } := by
  have nh : ((oth g.ch i ++ [(i, pr, ct)]).map (·.1)).Nodup := by
    rw [List.map_append, List.nodup_append]
    refine ⟨(List.filter_sublist.map _).nodup G.co.nh, by simp, fun a ha b hb e => ?_⟩
    obtain ⟨r, hr, rfl⟩ := List.mem_map.mp ha
    have hb : b = i := by simpa using hb
    exact (oth_mem.mp hr).2 (e.trans hb)
  have cm : ∀ r ∈ oth g.ch i ++ [(i, pr, ct)], r.1 = g.a ∨ r.1 = g.b := fun r hr => by
    rcases List.mem_append.mp hr with hr | hr
    · exact G.cm r (oth_mem.mp hr).1
    · rw [List.mem_singleton.mp hr]; exact hi
  have eq : ∀ r, r ∈ putco g.co i pr ct ↔ r ∈ oth g.ch i ++ [(i, pr, ct)] := fun r => by
    rw [putco_mem, List.mem_append, oth_mem, List.mem_singleton, G.co.eq]
  have l1 : (oth g.ch i ++ [(i, pr, ct)]).length ≤ 2 := by
    have := two_le (a := g.a) (b := g.b) nh (fun k hk => by obtain ⟨r, hr, rfl⟩ := List.mem_map.mp hk; exact cm r hr)
    rwa [List.length_map] at this
  have l2 : (putco g.co i pr ct).length ≤ 2 := by
    have := two_le (a := g.a) (b := g.b) (putco_nd (i := i) (pr := pr) (ct := ct) G.co.nd) (fun k hk => by obtain ⟨r, hr, rfl⟩ := List.mem_map.mp hk; exact cm r ((eq r).mp hr))
    rwa [List.length_map] at this
  exact ⟨⟨G.wd.w, G.wd.l⟩, ⟨putco_nd G.co.nd, nh, eq, by show (putco g.co i pr ct).length ≤ 100; omega, by show (oth g.ch i ++ [(i, pr, ct)]).length ≤ 99; omega⟩, G.a0, G.a1, G.b0, G.b1, G.p1, G.p2, G.cl, G.c1, G.c2, G.sg, G.lk, G.sw, G.se, G.im, G.nd, cm⟩
end
end SH

end

section
set_option Elab.async false
set_option linter.all false
set_option maxRecDepth 100000
namespace ST
open PySem PySem.Spec PyProof.Rows L2 VL SM
structure Dl where
  s : Int
  b : Int
  p : Int
  c : Int
  m : Int
noncomputable def Dl.D (d : Dl) : PyData := .tuple [.int d.s, .int d.b, .int d.p, .int d.c, .int d.m]
structure DlOk (n : Nat) (d : Dl) : Prop where
  s0 : 0 ≤ d.s
  s1 : d.s < n
  b0 : 0 ≤ d.b
  b1 : d.b < n
  p0 : 0 ≤ d.p
  p1 : d.p ≤ 1000000000
  c0 : 0 ≤ d.c
  c1 : d.c ≤ 1000000
noncomputable def mem (n : Nat) (f : Int → Int) : List Int := (List.range n).map fun i => f (i : Nat)
noncomputable def iL (xs : List Int) : List PyData := xs.map .int
inductive JS (n : Nat) (ds : List Dl) (f g : Int → Int) : Rho → Prop where
  | mk {a b c d e : Sl} (ha : frB (some a) = true) (hb : frB (some b) = true) (hc : frB (some c) = true) (hd : frB (some d) = true) (he : frB (some e) = true) :
    JS n ds f g [.val (.int (n : Nat)), .val (.list (ds.map Dl.D)), .own .free (tr (iL (mem n f))), .own .free (tr (iL (mem n g))), a, b, c, d, e]
end ST

end

section
set_option Elab.async false
set_option linter.all false
set_option maxRecDepth 100000
set_option maxHeartbeats 2000000
namespace SH
open PySem PySem.Spec PyProof.Rows L2 VL SM SP
section
variable {z s : Int} {x y x' : S} {p p' : Past} {md : Md} {n N : Nat} {g : Bg} {rest : Rho} {t u : Tr} {a0 : Sl}
end
end SH

end

section
set_option Elab.async false
set_option linter.all false
set_option maxRecDepth 100000
set_option maxHeartbeats 2000000
namespace SH
open PySem PySem.Spec PyProof.Rows L2 VL SM SP
section
variable {z s : Int} {x y x' : S} {p p' : Past} {md : Md} {n N : Nat} {g : Bg} {rest : Rho} {t u : Tr} {a0 : Sl}
end
end SH

end

section
set_option Elab.async false
set_option linter.all false
set_option maxRecDepth 100000
set_option maxHeartbeats 2000000
namespace SH
open PySem PySem.Spec PyProof.Rows L2 VL SM SP
structure Bag where
  c : Int
  s : Int
noncomputable def bgT (b : Bag) : Tr := .lst [.dat (.int b.c), .dat (.int b.s)]
noncomputable def BgOk (b : Bag) : Prop := BagT (bgT b)
theorem bg_of {t : Tr} (h : BagT t) : ∃ b, t = bgT b ∧ BgOk b := by
  have h' := h
  obtain ⟨c0, s0, s1⟩ := h'
  exact ⟨⟨_, _⟩, rfl, h⟩
section
variable {b : Bag} {md : Md}
theorem cv_bg {i : Nat} {ρ : Rho} : VR.cvS i ρ (some (.own md (bgT b))) = some (.ok (.o i) ρ) := rfl
theorem e_tk {n : Int} (hb : BgOk b) (h0 : 0 < n) (hl : n ≤ 1000000000) : ∃ v b', BgOk b' ∧ 0 ≤ v ∧ v < n ∧ fTake [.own .pin (bgT b), .val (.int n)] = some (.ret (.dat (.int v)), [.own .pin (bgT b'), .val (.int n)]) := by
  obtain ⟨t, outs, e, v, b', h1, h2, h3, rfl, rfl⟩ := take_ok (m := .pin) rfl hb h0 (lt_lim (by omega) (by omega)) (Q := fun t outs => ∃ v b', BgOk b' ∧ 0 ≤ v ∧ v < n ∧ t = .dat (.int v) ∧ outs = [.own .pin (bgT b'), .val (.int n)]) (fun r t' r0 r1 ht => by
    obtain ⟨b', rfl, h'⟩ := bg_of ht
    exact ⟨r, b', h', r0, r1, rfl, rfl⟩)
  exact ⟨v, b', h1, h2, h3, e⟩
theorem e_sg (hb : BgOk b) : ∃ d b', BgOk b' ∧ IsSign d ∧ fSign [.own .pin (bgT b)] = some (.ret (.dat d), [.own .pin (bgT b')]) := by
  obtain ⟨t, outs, e, v, b', h1, h2, rfl, rfl⟩ := sign_ok (m := .pin) rfl hb (Q := fun t outs => ∃ d b', BgOk b' ∧ IsSign d ∧ t = .dat d ∧ outs = [.own .pin (bgT b')]) (fun d t' hd ht => by
    obtain ⟨b', rfl, h'⟩ := bg_of ht
    exact ⟨d, b', h', hd, rfl, rfl⟩)
  exact ⟨v, b', h1, h2, e⟩
end
section
variable {b : Bag} {md : Md}
noncomputable def five (v : Int) (x0 x1 x2 x3 x4 : PyData) : PyData := if v = 0 then x0 else if v = 1 then x1 else if v = 2 then x2 else if v = 3 then x3 else x4
theorem sub5 {x0 x1 x2 x3 x4 : PyData} {v : Int} (h0 : 0 ≤ v) (h5 : v < 5) : subD (.list [x0, x1, x2, x3, x4]) (.int v) = some (five v x0 x1 x2 x3 x4) := by
  have : v = 0 ∨ v = 1 ∨ v = 2 ∨ v = 3 ∨ v = 4 := by omega
  rcases this with rfl | rfl | rfl | rfl | rfl <;> rfl
end
end SH

end

section
set_option Elab.async false
set_option linter.all false
set_option maxRecDepth 100000
set_option maxHeartbeats 2000000
namespace SH
open PySem PySem.Spec PyProof.Rows L2 VL SM SP
section
variable {z s : Int} {x y x' : S} {p p' : Past} {md : Md} {n N : Nat} {g : Bg} {rest : Rho} {t u : Tr} {b : Bag}
end
end SH

end

section
set_option Elab.async false
set_option linter.all false
set_option maxRecDepth 100000
set_option maxHeartbeats 2000000
namespace SH
open PySem PySem.Spec PyProof.Rows L2 VL SM SP
theorem run_rt {n : Nat} {g : MS} {args ρ' : Rho} {t : Tr} (h : g (entry n args) = some (.rt t ρ')) : runF n g args = some (.ret t, ρ'.take args.length) := by
  unfold runF
  rw [h]
section
variable {z s : Int} {x y x' : S} {p p' : Past} {md : Md} {n N : Nat} {g : Bg} {rest : Rho} {t u : Tr} {b : Bag}
end
end SH

end

section
set_option Elab.async false
set_option linter.all false
set_option maxRecDepth 100000
set_option maxHeartbeats 2000000
namespace SH
open PySem PySem.Spec PyProof.Rows L2 VL SM SP
section
variable {z s : Int} {x y x' : S} {p p' : Past} {md : Md} {n N : Nat} {g : Bg} {rest : Rho} {t u : Tr} {b : Bag}
end
end SH

end

section
set_option Elab.async false
set_option linter.all false
set_option maxRecDepth 100000
set_option maxHeartbeats 2000000
namespace SH
open PySem PySem.Spec PyProof.Rows L2 VL SM SP
noncomputable def x0 : S := ⟨0, true, 0, [], [], [], []⟩
section
variable {z s : Int} {x y x' : S} {p p' : Past} {md : Md} {n N : Nat} {g : Bg} {rest : Rho} {t u : Tr} {b : Bag} {c : Cl} {d : PyData}
theorem tkF {k : Int} : fTake [.own .free (bgT b), .val (.int k)] = fTake [.own .pin (bgT b), .val (.int k)] := rfl
theorem e_bag {ns : List Int} {i : Nat} (hi : i ≤ 40) : ∃ b outs, BgOk b ∧ fBag [.val (scrD ns), .val (.int (i : Nat))] = some (.ret (bgT b), outs) := by
  obtain ⟨t, outs, e, h⟩ := bag_ok (ns := ns) hi (Q := fun t _ => BagT t) (fun t h => h)
  obtain ⟨b, rfl, hb⟩ := bg_of h
  exact ⟨b, outs, hb, e⟩
end
end SH

end

section
set_option Elab.async false
set_option linter.all false
set_option maxRecDepth 100000
namespace SP
open PySem PySem.Spec PyProof.Rows L2 VL SM
theorem ins_perm {α : Type} {ds : List α} {i : Nat} {d : α} : (ds.take i ++ [d] ++ ds.drop i).Perm (d :: ds) := by
  have e : ds.take i ++ [d] ++ ds.drop i = ds.take i ++ d :: ds.drop i := by simp
  rw [e]
  refine List.perm_middle.trans ?_
  rw [List.take_append_drop]
inductive JH {α : Type} (D : α → PyData) (ds : List α) (es : List α) : Rho → Prop where
  | mk {t : Tr} {a : Sl} (ht : BagT t) (ha : frB (some a) = true) : JH D ds es [.own .pin t, .val (.list (ds.map D)), .own .free (tr (es.map D)), a]
end SP

end

section
set_option Elab.async false
set_option linter.all false
set_option maxRecDepth 100000
set_option maxHeartbeats 2000000
namespace SH
open PySem PySem.Spec PyProof.Rows L2 VL SM SP
noncomputable def FrL (vs : List Sl) : Prop := ∀ v ∈ vs, frB (some v) = true
theorem FrL.nil : FrL [] := fun _ h => nomatch h
theorem FrL.cons {v : Sl} {vs : List Sl} (h : frB (some v) = true) (t : FrL vs) : FrL (v :: vs) := fun w hw => by
  rcases List.mem_cons.mp hw with rfl | hw
  · exact h
  · exact t w hw
theorem FrL.hd {v : Sl} {vs : List Sl} (h : FrL (v :: vs)) : frB (some v) = true := h v (List.mem_cons_self ..)
theorem FrL.tl {v : Sl} {vs : List Sl} (h : FrL (v :: vs)) : FrL vs := fun w hw => h w (List.mem_cons_of_mem _ hw)
theorem FrL.rep {n : Nat} : FrL (List.replicate n .no) := fun v hv => by rw [(List.mem_replicate.mp hv).2]; rfl
noncomputable def Cell (n : Nat) (ns : List Int) (body : MS) : Prop := ∀ (k : Nat) (vs : List Sl), k ≤ 40 → vs.length = n → FrL vs → ∃ ws, ws.length = n ∧ FrL ws ∧ body (.val (scrD ns) :: .val (.int (k : Nat)) :: vs) = some (.nx (.val (scrD ns) :: .val (.int (k : Nat)) :: ws))
theorem for_ok {fi : M (List PyData)} {g : MG} {b : MS} {ρ ρ1 : Rho} {ds : List PyData} {r : Option Out} (h : fi ρ = some (.ok ds ρ1)) (l : loopF g b ds ρ1 = r) : sFor fi g b ρ = r := by
  unfold sFor sE
  rw [h]
  exact l
theorem loop_cons {g : MG} {b : MS} {d : PyData} {ds : List PyData} {ρ ρ1 ρ2 : Rho} (h : g d ρ = some ρ1) (e : b ρ1 = some (.nx ρ2)) : loopF g b (d :: ds) ρ = loopF g b ds ρ2 := by
  show (match g d ρ with
    | none => none
    | some ρ1 => match b ρ1 with
      | some (.nx ρ2) => loopF g b ds ρ2
      | some (.ct ρ2) => loopF g b ds ρ2
      | some (.bk ρ2) => some (.nx ρ2)
      | o => o) = _
  rw [h]
  show (match b ρ1 with
      | some (.nx ρ2) => loopF g b ds ρ2
      | some (.ct ρ2) => loopF g b ds ρ2
      | some (.bk ρ2) => some (.nx ρ2)
      | o => o) = _
  rw [e]
theorem cells {body : MS} {ns : List Int} {n : Nat} (h : Cell n ns body) : ∀ (m k : Nat) (v1 : Sl) (vs : List Sl), k + m ≤ 41 → frB (some v1) = true → vs.length = n → FrL vs →
    ∃ ρ, loopF (gN 1) body ((List.range' k m).map fun k => .int (0 + (k : Nat))) (.val (scrD ns) :: v1 :: vs) = some (.nx (.val (scrD ns) :: ρ))
  | 0, k, v1, vs, _, _, _, _ => ⟨_, rfl⟩
  | m + 1, k, v1, vs, hk, h1, hn, hf => by
    obtain ⟨ws, hw, fw, e1⟩ := h k vs (by omega) hn hf
    obtain ⟨ρ, ih⟩ := cells h m (k + 1) (.val (.int (k : Nat))) ws (by omega) rfl hw fw
    refine ⟨ρ, ?_⟩
    have g : gN 1 (.int (0 + (k : Nat))) (.val (scrD ns) :: v1 :: vs) = some (.val (scrD ns) :: .val (.int (k : Nat)) :: vs) := by
      rw [Int.zero_add]
      exact setSl_f h1
    rw [List.range'_succ, List.map_cons, loop_cons g e1]
    exact ih
theorem cell_range {ns : List Int} {c : Int} {m : Nat} {vs : List Sl} (em : (1 + (if c < ((ns.length : Nat) : Int) then c else ((ns.length : Nat) : Int)) : Int) = (m : Int)) (hm : m < 100000) : iRange1 (aCons (cBin addD (cD (.int 1)) (cCall min2D (aCons (cCall lenD (aCons (cVar 0) aNil)) (aCons (cD (.int c)) aNil)))) aNil) (.val (scrD ns) :: vs) = some (.ok ((List.range' 0 m).map fun k => .int (0 + (k : Nat))) (.val (scrD ns) :: vs)) := by
  have ls : lenD [scrD ns] = some (.int (ns.length : Nat)) := by
    unfold scrD
    show some (PyData.int (List.length _)) = _
    rw [List.length_map]
  rw [← List.range_eq_range']
  refine rng1 ?_ hm
  simp! only [setSl, List.replicate, pinS, Md.unb, VR.ap_fld1, VR.ap_pFld, VR.ap_pKey, VR.ap_keyT1, ls, min2, em]
theorem for_cells {body : MS} {c : Int} {n : Nat} {ns : List Int} {v1 : Sl} {vs : List Sl} (hc : 0 ≤ c ∧ c ≤ 40) (h : Cell n ns body) (h1 : frB (some v1) = true) (hn : vs.length = n) (hf : FrL vs) :
    ∃ ρ, sFor (iRange1 (aCons (cBin addD (cD (.int 1)) (cCall min2D (aCons (cCall lenD (aCons (cVar 0) aNil)) (aCons (cD (.int c)) aNil)))) aNil)) (gN 1) body (.val (scrD ns) :: v1 :: vs) = some (.nx (.val (scrD ns) :: ρ)) := by
  obtain ⟨m, em⟩ : ∃ m : Nat, (1 + (if c < ((ns.length : Nat) : Int) then c else ((ns.length : Nat) : Int)) : Int) = (m : Int) := ⟨(1 + (if c < ((ns.length : Nat) : Int) then c else ((ns.length : Nat) : Int)) : Int).toNat, by split <;> omega⟩
  have hm : m ≤ 41 := by split at em <;> omega
  obtain ⟨ρ, lp⟩ := cells h m 0 v1 vs (by omega) h1 hn hf
  exact ⟨ρ, for_ok (cell_range em (by omega)) lp⟩
theorem law_cells {body : MS} {c : Int} {n : Nat} (hc : 0 ≤ c ∧ c ≤ 40) (ns : List Int) (h : Cell n ns body) :
    ∃ outs, runF (n + 2) (sSeq (sFor (iRange1 (aCons (cBin addD (cD (.int 1)) (cCall min2D (aCons (cCall lenD (aCons (cVar 0) aNil)) (aCons (cD (.int c)) aNil)))) aNil)) (gN 1) body) (sRet (nDat (cD (.bool true))))) [.val (scrD ns)] = some (.ret (.dat (.bool true)), outs) := by
  obtain ⟨ρ, lp⟩ := for_cells (v1 := .no) (vs := List.replicate n .no) hc h rfl List.length_replicate .rep
  refine ⟨[.val (scrD ns)], ?_⟩
  refine (run_rt (t := .dat (.bool true)) (ρ' := .val (scrD ns) :: ρ) ?_).trans rfl
  show sSeq _ _ (.val (scrD ns) :: .no :: List.replicate n .no) = _
  rw [seq_nx lp]
  rfl
theorem rng2 {f : M (List Rv)} {ρ ρ1 : Rho} {n : Nat} (h : f ρ = some (.ok [.d (.int (n : Nat))] ρ1)) (hn : n < 100000) : iRange1 f ρ = some (.ok ((List.range n).map fun k => .int (0 + (k : Nat))) ρ1) := by
  unfold iRange1 bnd
  rw [h]
  show (if -(2 ^ 62) ≤ ((n : Nat) : Int) ∧ ((n : Nat) : Int) < 2 ^ 62 then some (Er.ok (rangeD 0 ((n : Nat) : Int).toNat) _) else none) = _
  rw [if_pos (by omega)]
  rfl
end SH

end

section
set_option Elab.async false
set_option linter.all false
set_option maxRecDepth 100000
set_option maxHeartbeats 2000000
namespace SH
open PySem PySem.Spec PyProof.Rows L2 VL SM SP
theorem r_set {i : Nat} {f : M Rv} {ρ ρ1 : Rho} {d : PyData} (h : f ρ = some (.ok (.d d) ρ1)) (hs : frB (ρ1[i]?) = true) : sSet i f ρ = some (.nx (ρ1.set i (.val d))) := by
  simp! only [List.replicate, pinS, Md.unb, VR.ap_fld1, VR.ap_pFld, VR.ap_pKey, VR.ap_keyT1, h, setSl_f, hs]
theorem r_setN {i : Nat} {f : M Tr} {ρ ρ1 : Rho} {t : Tr} (h : f ρ = some (.ok t ρ1)) (hs : frB (ρ1[i]?) = true) : sSetN i f ρ = some (.nx (ρ1.set i (.own .free t))) := by
  simp! only [List.replicate, pinS, Md.unb, VR.ap_fld1, VR.ap_pFld, VR.ap_pKey, VR.ap_keyT1, h, setSl_f, hs]
theorem r_cmp {g : PyData → PyData → Option Bool} {f1 f2 : M Rv} {ρ ρ1 ρ2 : Rho} {d e : PyData} {r : Bool} (h1 : f1 ρ = some (.ok (.d d) ρ1)) (h2 : f2 ρ1 = some (.ok (.d e) ρ2)) (h : g d e = some r) : cCmp g f1 f2 ρ = some (.ok r ρ2) := by
  simp! only [setSl, List.replicate, pinS, Md.unb, VR.ap_fld1, VR.ap_pFld, VR.ap_pKey, VR.ap_keyT1, h1, h2, h]
theorem r_bin {g : PyData → PyData → Option PyData} {f1 f2 : M Rv} {ρ ρ1 ρ2 : Rho} {d e r : PyData} (h1 : f1 ρ = some (.ok (.d d) ρ1)) (h2 : f2 ρ1 = some (.ok (.d e) ρ2)) (h : g d e = some r) : cBin g f1 f2 ρ = some (.ok (.d r) ρ2) := by
  simp! only [setSl, List.replicate, pinS, Md.unb, VR.ap_fld1, VR.ap_pFld, VR.ap_pKey, VR.ap_keyT1, h1, h2, h]
theorem r_call1 {g : List PyData → Option PyData} {f : M Rv} {ρ ρ1 : Rho} {d r : PyData} (h1 : f ρ = some (.ok (.d d) ρ1)) (h : g [d] = some r) : cCall g (aCons f aNil) ρ = some (.ok (.d r) ρ1) := by
  simp! only [setSl, List.replicate, pinS, Md.unb, VR.ap_fld1, VR.ap_pFld, VR.ap_pKey, VR.ap_keyT1, h1, h]
theorem r_orFF {c1 c2 : M Bool} {ρ ρ1 ρ2 : Rho} (h1 : c1 ρ = some (.ok false ρ1)) (h2 : c2 ρ1 = some (.ok false ρ2)) : cOr c1 c2 ρ = some (.ok false ρ2) := by
  simp! only [setSl, List.replicate, pinS, Md.unb, VR.ap_fld1, VR.ap_pFld, VR.ap_pKey, VR.ap_keyT1, h1, h2]
theorem r_andF {c1 c2 : M Bool} {ρ ρ1 : Rho} (h1 : c1 ρ = some (.ok false ρ1)) : cAnd c1 c2 ρ = some (.ok false ρ1) := by
  simp! only [setSl, List.replicate, pinS, Md.unb, VR.ap_fld1, VR.ap_pFld, VR.ap_pKey, VR.ap_keyT1, h1]
theorem r_andT {c1 c2 : M Bool} {ρ ρ1 ρ2 : Rho} {r : Bool} (h1 : c1 ρ = some (.ok true ρ1)) (h2 : c2 ρ1 = some (.ok r ρ2)) : cAnd c1 c2 ρ = some (.ok r ρ2) := by
  simp! only [setSl, List.replicate, pinS, Md.unb, VR.ap_fld1, VR.ap_pFld, VR.ap_pKey, VR.ap_keyT1, h1, h2]
theorem r_not {c : M Bool} {ρ ρ1 : Rho} {r : Bool} (h : c ρ = some (.ok r ρ1)) : cNot c ρ = some (.ok (!r) ρ1) := by
  simp! only [setSl, List.replicate, pinS, Md.unb, VR.ap_fld1, VR.ap_pFld, VR.ap_pKey, VR.ap_keyT1, h]
theorem r_ifF {c : M Bool} {g h : MS} {ρ ρ1 : Rho} (e : c ρ = some (.ok false ρ1)) : sIf c g h ρ = h ρ1 := by
  simp! only [setSl, List.replicate, pinS, Md.unb, VR.ap_fld1, VR.ap_pFld, VR.ap_pKey, VR.ap_keyT1, e]
theorem r_ifT {c : M Bool} {g h : MS} {ρ ρ1 : Rho} (e : c ρ = some (.ok true ρ1)) : sIf c g h ρ = g ρ1 := by
  simp! only [setSl, List.replicate, pinS, Md.unb, VR.ap_fld1, VR.ap_pFld, VR.ap_pKey, VR.ap_keyT1, e]
theorem r_var {i : Nat} {ρ : Rho} {d : PyData} (h : ρ[i]? = some (.val d)) : cVar i ρ = some (.ok (.d d) ρ) := by
  rw [VR.ap_cVar, h]
  rfl
theorem r_seq {i : Nat} {ρ : Rho} {ds : List PyData} (h : ρ[i]? = some (.val (.list ds))) : iSeq (cVar i) ρ = some (.ok ds ρ) := by
  unfold iSeq bnd
  rw [r_var h]
  rfl
theorem r_frz {f : M Tr} {ρ ρ1 : Rho} {t : Tr} {d : PyData} (h : f ρ = some (.ok t ρ1)) (td : t.toD = some d) : cFrz f ρ = some (.ok (.d d) ρ1) := by
  unfold cFrz bnd
  rw [h]
  show (match t.toD with
    | some d => some (Er.ok (Rv.d d) ρ1)
    | none => none) = _
  rw [td]
theorem r_rng {j n : Nat} {ρ : Rho} (h : ρ[j]? = some (.val (.int (n : Nat)))) (hn : n < 100000) : iRange1 (aCons (cVar j) aNil) ρ = some (.ok ((List.range n).map fun i => .int (0 + (i : Nat))) ρ) := by
  refine rng2 ?_ hn
  have : cVar j ρ = some (.ok (.d (.int (n : Nat))) ρ) := r_var h
  simp! only [setSl, List.replicate, pinS, Md.unb, VR.ap_fld1, VR.ap_pFld, VR.ap_pKey, VR.ap_keyT1, -VR.ap_cVar, this]
theorem r_comp {α : Type} {D : α → PyData} {ds : List α} {v : Nat} {fi : M (List PyData)} {te : M Rv} {ρ : Rho} {s : Sl} (f : α → PyData) (hi : fi ρ = some (.ok (ds.map D) ρ)) (hl : ds.length ≤ 16777216) (hv : ρ[v]? = some s) (hs : unown s = true)
    (he : ∀ d ∈ ds, te (ρ.set v (.val (D d))) = some (.ok (.d (f d)) (ρ.set v (.val (D d))))) : nComp fi [v] (gN v) tYesM te ρ = some (.ok (.lst ((ds.map f).map .dat)) ρ) := by
  have c := comp_eq (D := D) (ds := ds) (fi := fi) (v := v) (tt := tYesM) (te := te) (ρ := ρ) (s := s) (fun _ => true) f hi hl hv hs (fun _ _ => rfl) (fun d hd _ => he d hd)
  rw [List.filter_eq_self.mpr fun _ _ => rfl] at c
  exact c
theorem r_compD {α : Type} {D : α → PyData} {ds : List α} {v : Nat} {fi : M (List PyData)} {te : M Rv} {ρ : Rho} {s : Sl} (f : α → PyData) (hi : fi ρ = some (.ok (ds.map D) ρ)) (hl : ds.length ≤ 16777216) (hv : ρ[v]? = some s) (hs : unown s = true)
    (he : ∀ d ∈ ds, te (ρ.set v (.val (D d))) = some (.ok (.d (f d)) (ρ.set v (.val (D d))))) : cFrz (nComp fi [v] (gN v) tYesM te) ρ = some (.ok (.d (.list (ds.map f))) ρ) := r_frz (r_comp f hi hl hv hs he) toD_ds
theorem r_compT {α : Type} {D : α → PyData} {ds : List α} {v : Nat} {fi : M (List PyData)} {tt : M Bool} {te : M Rv} {ρ : Rho} {s : Sl} (p : α → Bool) (f : α → PyData) (hi : fi ρ = some (.ok (ds.map D) ρ)) (hl : ds.length ≤ 16777216) (hv : ρ[v]? = some s) (hs : unown s = true)
    (ht : ∀ d ∈ ds, tt (ρ.set v (.val (D d))) = some (.ok (p d) (ρ.set v (.val (D d))))) (he : ∀ d ∈ ds, p d = true → te (ρ.set v (.val (D d))) = some (.ok (.d (f d)) (ρ.set v (.val (D d))))) : cFrz (nComp fi [v] (gN v) tt te) ρ = some (.ok (.d (.list ((ds.filter p).map f))) ρ) := r_frz (comp_eq p f hi hl hv hs ht he) toD_ds
theorem r_asg {G : MG} {f : M Rv} {ρ ρ1 ρ2 : Rho} {d : PyData} (h : f ρ = some (.ok (.d d) ρ1)) (g : G d ρ1 = some ρ2) : sAsg G f ρ = some (.nx ρ2) := by
  simp! only [setSl, List.replicate, pinS, Md.unb, VR.ap_fld1, VR.ap_pFld, VR.ap_pKey, VR.ap_keyT1, h, g]
theorem r_gT2 {i j : Nat} {a b : PyData} {ρ : Rho} (hi : frB (ρ[i]?) = true) (hj : frB ((ρ.set i (.val a))[j]?) = true) : VL.gT 2 (gsC (gN i) (gsC (gN j) gsN)) (.tuple [a, b]) ρ = some ((ρ.set i (.val a)).set j (.val b)) := by
  have h1 : gN i a ρ = some (ρ.set i (.val a)) := setSl_f hi
  have h2 : gN j b (ρ.set i (.val a)) = some ((ρ.set i (.val a)).set j (.val b)) := setSl_f hj
  show (if (2 : Nat) = 2 then gsC (gN i) (gsC (gN j) gsN) [a, b] ρ else none) = _
  rw [if_pos rfl]
  simp only [gsC, h1, h2, gsN]
end SH

end

section
set_option Elab.async false
set_option linter.all false
set_option maxRecDepth 100000
namespace VL
open PySem PySem.Spec PyProof.Rows L2
section
variable {X : Cx} {T T1 T2 T3 T4 T5 : List Nat} {W : WV} {K : Fg}
variable {fa fb : M Rv} {a b : Expr} {pos : Pos}
end
section
variable {X : Cx} {T T1 T2 T3 T4 T5 : List Nat} {W : WV} {K : Fg} {o i e : Expr} {pos tpos : Pos} {fp1 : M (Nat × List Nat)} {fi fe : M Rv}
end
section
variable {X : Cx} {T : List Nat} {W : WV} {K : Fg} {pos p : Pos} {e : Expr} {fs : M (List Rv)}
end
end VL

end

section
set_option Elab.async false
set_option linter.all false
set_option maxRecDepth 100000
namespace SXD
open PySem PySem.Spec PyProof.Rows L2 VL SM SN
end SXD

end

section
set_option Elab.async false
set_option linter.all false
namespace DV
noncomputable def Part (L : List Int) (D : Nat) : Prop := ∃ gs : List (List Int), gs.length = D ∧ gs.flatten.Perm L ∧ ∀ g ∈ gs, g ≠ [] ∧ g.sum = 0
theorem Part.map {f : Int → Int} {L : List Int} {D : Nat} (h0 : ∀ g : List Int, (∀ x ∈ g, x ∈ L) → g.sum = 0 → (g.map f).sum = 0) (h : Part L D) : Part (L.map f) D := by
  obtain ⟨gs, a, b, c⟩ := h
  refine ⟨gs.map (·.map f), by rw [List.length_map, a], ?_, fun g hg => ?_⟩
  · rw [← List.map_flatten]
    exact b.map f
  · obtain ⟨g', h1, rfl⟩ := List.mem_map.mp hg
    obtain ⟨h2, h3⟩ := c g' h1
    exact ⟨by simpa using h2, h0 g' (fun x hx => b.mem_iff.mp (List.mem_flatten.mpr ⟨g', h1, hx⟩)) h3⟩
noncomputable def bit (S k : Nat) : Nat := S / 2 ^ k % 2
noncomputable def sumS : List Int → Nat → Int
  | [], _ => 0
  | x :: xs, S => (if S % 2 = 1 then x else 0) + sumS xs (S / 2)
noncomputable def sumP (N : List Int) (l : List Nat) : Int := (l.map fun k => N[k]?.getD 0).sum
noncomputable def zS (N : List Int) (S : Nat) : Nat := if sumS N S = 0 then 1 else 0
structure Best (N : List Int) (best : Nat → Nat) : Prop where
  zero : best 0 = 0
  some : ∀ S, 0 < S → S < 2 ^ N.length → ∃ k, k < N.length ∧ bit S k = 1 ∧ best S = best (S - 2 ^ k) + zS N S
  all : ∀ S, 0 < S → S < 2 ^ N.length → ∀ k, k < N.length → bit S k = 1 → best (S - 2 ^ k) + zS N S ≤ best S
section
variable {N : List Int} {best : Nat → Nat} (b : Best N best)
include b
end
structure GI (N : List Int) (best : Nat → Nat) (S : Nat) (G : List (List Nat)) : Prop where
  lt : S < 2 ^ N.length
  nd : G.flatten.Nodup
  inn : ∀ k ∈ G.flatten, k < N.length
  mem : ∀ k, k < N.length → (bit S k = 1 ↔ k ∉ G.flatten)
  ct : G.length + best S = best (2 ^ N.length - 1)
  grp : (G = [] ∧ sumS N S = 0) ∨ ∃ G' g, G = G' ++ [g] ∧ g ≠ [] ∧ (∀ h ∈ G', h ≠ [] ∧ sumP N h = 0) ∧ sumP N g + sumS N S = 0
structure GE (N : List Int) (B : Nat) (G : List (List Nat)) : Prop where
  ct : G.length = B
  nd : G.flatten.Nodup
  mem : ∀ k, k ∈ G.flatten ↔ k < N.length
  grp : ∀ g ∈ G, g ≠ [] ∧ sumP N g = 0
end DV

end

section
set_option Elab.async false
set_option linter.all false
set_option maxRecDepth 100000
set_option maxHeartbeats 2000000
namespace DQ
open PySem PySem.Spec PyProof.Rows L2 VL SM SP SH SXD
noncomputable abbrev iD (xs : List Int) : PyData := .list (xs.map .int)
theorem addI {xs ys : List Int} (h : xs.length + ys.length ≤ 1000000) : addD (iD xs) (iD ys) = some (iD (xs ++ ys)) := by
  show (if small ((xs.map PyData.int).length + (ys.map PyData.int).length) then some (PyData.list (xs.map PyData.int ++ ys.map PyData.int)) else none) = _
  rw [if_pos (small_of (by simp; omega)), ← List.map_append]
noncomputable def bS (B : List Nat) (S : Nat) : Nat := B[S]?.getD 0
structure Upto (N : List Int) (B : List Nat) (m : Nat) : Prop where
  zero : bS B 0 = 0
  some : ∀ S, 0 < S → S < m → ∃ k, k < N.length ∧ DV.bit S k = 1 ∧ bS B S = bS B (S - 2 ^ k) + DV.zS N S
  all : ∀ S, 0 < S → S < m → ∀ k, k < N.length → DV.bit S k = 1 → bS B (S - 2 ^ k) + DV.zS N S ≤ bS B S
end DQ

end

section
set_option Elab.async false
set_option linter.all false
namespace MT
variable {α : Type} [DecidableEq α]
noncomputable abbrev Mt (α : Type) := α → Option α
section
variable {near : α → List α} {U : List α}
structure Sn (U sn sn' : List α) : Prop where
  nd : sn'.Nodup
  sub : ∀ x ∈ sn', x ∈ U
  inc : ∀ x ∈ sn, x ∈ sn'
structure Fa (near : α → List α) (M : Mt α) (l sn : List α) (M' : Mt α) (sn' : List α) : Prop where
  e : M' = M
  inc : ∀ x ∈ sn, x ∈ sn'
  nr : ∀ x ∈ l, x ∈ sn'
  cl : ∀ o ∈ sn', o ∉ sn → ∃ e, M o = some e ∧ ∀ x ∈ near e, x ∈ sn'
structure Mok (near : α → List α) (M : Mt α) : Prop where
  inj : ∀ o o' e, M o = some e → M o' = some e → o = o'
  adj : ∀ o e, M o = some e → o ∈ near e
structure Tu (near : α → List α) (M : Mt α) (s : α) (sn : List α) (M' : Mt α) : Prop where
  old : ∀ o ∈ sn, M' o = M o
  adj : ∀ o e, M' o = some e → o ∈ near e
  dom : ∃ p, p ∉ sn ∧ M p = none ∧ (∃ e, M' p = some e) ∧ ∀ o, o ≠ p → (M' o).isSome = (M o).isSome
  rng : ∀ e, (∃ o, o ∉ sn ∧ M' o = some e) ↔ e = s ∨ ∃ o, o ∉ sn ∧ M o = some e
  inj : ∀ o o' e, o ∉ sn → o' ∉ sn → M' o = some e → M' o' = some e → o = o'
end
end MT

end

section
set_option Elab.async false
set_option linter.all false
set_option maxRecDepth 100000
set_option maxHeartbeats 2000000
namespace DQ
open PySem PySem.Spec PyProof.Rows L2 VL SM SP SH SXD
section
variable {N : List Int} {B : List Nat} {S : Nat} {G : List (List Nat)} {v6 v7 : Sl}
end
end DQ

end

section
set_option Elab.async false
set_option linter.all false
set_option maxRecDepth 100000
set_option maxHeartbeats 2000000
namespace DQ
open PySem PySem.Spec PyProof.Rows L2 VL SM SP SH SXD
section
variable {κ : Type} [DecidableEq κ]
end
noncomputable abbrev QL := List (Key × PyData)
section
variable {d0 d1 : PyData} {Q : QL} {xs ys : List Nat} {R : List (Nat × Nat × Int)} {v7 v8 v9 : Sl} {x y : Nat} {a b c : Int}
end
end DQ

end

section
set_option Elab.async false
set_option linter.all false
set_option maxRecDepth 100000
set_option maxHeartbeats 2000000
namespace SH
open PySem PySem.Spec PyProof.Rows L2 VL SM SP DQ
section
variable {i : Nat} {ρ : Rho}
theorem p_own {m : Md} {t : Tr} (h : ρ[i]? = some (.own m t)) : pVar i ρ = some (.ok (i, []) ρ) := by
  unfold pVar
  rw [h]
theorem t_own {m : Md} {t : Tr} (h : ρ[i]? = some (.own m t)) : treeAt ρ (i, []) = some t := by
  unfold treeAt
  rw [h]
  rfl
theorem bnd_ok {α β : Type} {f : M α} {k : α → M β} {ρ ρ1 : Rho} {a : α} (h : f ρ = some (.ok a ρ1)) : bnd f k ρ = k a ρ1 := by
  unfold bnd
  rw [h]
theorem sE_ok {α : Type} {f : M α} {k : α → MS} {ρ ρ1 : Rho} {a : α} (h : f ρ = some (.ok a ρ1)) : sE f k ρ = k a ρ1 := by
  unfold sE
  rw [h]
end
section
variable {κ : Type} [DecidableEq κ]
end
end SH

end

section
set_option Elab.async false
set_option linter.all false
set_option maxRecDepth 100000
namespace K09
noncomputable abbrev Rw := List (Nat × Nat)
noncomputable abbrev Rs := Nat × Rw
noncomputable def llt : Rw → Rw → Bool
  | [], [] => false
  | [], _ :: _ => true
  | _ :: _, [] => false
  | (a, b) :: r, (c, d) :: s => if a < c then true else if c < a then false else if b < d then true else if d < b then false else llt r s
noncomputable def lt (x y : Rs) : Bool := if x.1 < y.1 then true else if y.1 < x.1 then false else llt x.2 y.2
theorem llt_irr : ∀ a : Rw, llt a a = false
  | [] => rfl
  | (a, b) :: r => by simp [llt, llt_irr r]
theorem llt_tot : ∀ a b : Rw, llt a b = false → llt b a = false → a = b
  | [], [], _, _ => rfl
  | [], _ :: _, h, _ => by simp [llt] at h
  | _ :: _, [], _, h => by simp [llt] at h
  | (a, b) :: r, (c, d) :: s, h1, h2 => by
    simp only [llt] at h1 h2
    split at h1
    · cases h1
    · rename_i n1
      rw [if_neg n1] at h2
      split at h1
      · rename_i n2
        rw [if_pos n2] at h2
        cases h2
      · rename_i n2
        rw [if_neg n2] at h2
        split at h1
        · cases h1
        · rename_i n3
          rw [if_neg n3] at h2
          split at h1
          · rename_i n4
            rw [if_pos n4] at h2
            cases h2
          · rename_i n4
            rw [if_neg n4] at h2
            have := llt_tot r s h1 h2
            have e1 : a = c := by omega
            have e2 : b = d := by omega
            rw [e1, e2, this]
theorem llt_iff {a b c d : Nat} {r s : Rw} : llt ((a, b) :: r) ((c, d) :: s) = true ↔ a < c ∨ (a = c ∧ (b < d ∨ (b = d ∧ llt r s = true))) := by
  simp only [llt]
  by_cases h1 : a < c
  · simp [h1]
  · by_cases h2 : c < a
    · rw [if_neg h1, if_pos h2]
      constructor
      · intro h; cases h
      · rintro (h | ⟨h, _⟩) <;> omega
    · rw [if_neg h1, if_neg h2]
      have e : a = c := by omega
      by_cases h3 : b < d
      · simp [h3, e]
      · by_cases h4 : d < b
        · rw [if_neg h3, if_pos h4]
          constructor
          · intro h; cases h
          · rintro (h | ⟨_, h | ⟨h, _⟩⟩) <;> omega
        · rw [if_neg h3, if_neg h4]
          have e2 : b = d := by omega
          constructor
          · intro h; exact .inr ⟨e, .inr ⟨e2, h⟩⟩
          · rintro (h | ⟨_, h | ⟨_, h⟩⟩)
            · omega
            · omega
            · exact h
theorem llt_trans : ∀ a b c : Rw, llt a b = true → llt b c = true → llt a c = true
  | [], [], _, h, _ => by simp [llt] at h
  | _ :: _, [], _, h, _ => by simp [llt] at h
  | _, _ :: _, [], _, h => by simp [llt] at h
  | [], _ :: _, _ :: _, _, _ => by simp [llt]
  | (a, b) :: r, (c, d) :: s, (e, f) :: t, h1, h2 => by
    have ih := llt_trans r s t
    rw [llt_iff] at h1 h2 ⊢
    rcases h1 with h1 | ⟨h1, h1 | ⟨h1', h1⟩⟩ <;> rcases h2 with h2 | ⟨h2, h2 | ⟨h2', h2⟩⟩
    · exact .inl (by omega)
    · exact .inl (by omega)
    · exact .inl (by omega)
    · exact .inl (by omega)
    · exact .inr ⟨by omega, .inl (by omega)⟩
    · exact .inr ⟨by omega, .inl (by omega)⟩
    · exact .inl (by omega)
    · exact .inr ⟨by omega, .inl (by omega)⟩
    · exact .inr ⟨by omega, .inr ⟨by omega, ih h1 h2⟩⟩
theorem lt_iff {x y : Rs} : lt x y = true ↔ x.1 < y.1 ∨ (x.1 = y.1 ∧ llt x.2 y.2 = true) := by
  unfold lt
  by_cases h1 : x.1 < y.1
  · simp [h1]
  · by_cases h2 : y.1 < x.1
    · rw [if_neg h1, if_pos h2]
      constructor
      · intro h; cases h
      · rintro (h | ⟨h, _⟩) <;> omega
    · rw [if_neg h1, if_neg h2]
      constructor
      · intro h; exact .inr ⟨by omega, h⟩
      · rintro (h | ⟨_, h⟩)
        · omega
        · exact h
theorem lt_irr (x : Rs) : lt x x = false := by simp [lt, llt_irr]
theorem lt_tot {x y : Rs} (h1 : lt x y = false) (h2 : lt y x = false) : x = y := by
  obtain ⟨a, r⟩ := x
  obtain ⟨b, s⟩ := y
  simp only [lt] at h1 h2
  split at h1
  · cases h1
  · rename_i n1
    rw [if_neg n1] at h2
    split at h1
    · rename_i n2
      rw [if_pos n2] at h2
      cases h2
    · rename_i n2
      rw [if_neg n2] at h2
      have e : a = b := by omega
      rw [e, llt_tot _ _ h1 h2]
theorem lt_trans' {x y z : Rs} (h1 : lt x y = true) (h2 : lt y z = true) : lt x z = true := by
  rw [lt_iff] at h1 h2 ⊢
  rcases h1 with h1 | ⟨h1, h1'⟩ <;> rcases h2 with h2 | ⟨h2, h2'⟩
  · exact .inl (by omega)
  · exact .inl (by omega)
  · exact .inl (by omega)
  · exact .inr ⟨by omega, llt_trans _ _ _ h1' h2'⟩
noncomputable def Le (a b : Rs) : Prop := lt b a = false
theorem Le.refl (a : Rs) : Le a a := lt_irr a
theorem Le.anti {a b : Rs} (h1 : Le a b) (h2 : Le b a) : a = b := lt_tot h2 h1
theorem Le.trans {a b c : Rs} (h1 : Le a b) (h2 : Le b c) : Le a c := by
  unfold Le at *
  cases h : lt c a with
  | false => rfl
  | true =>
    cases h3 : lt a b with
    | false =>
      have := lt_tot h3 h1
      subst this
      rw [h] at h2; cases h2
    | true => rw [lt_trans' h h3] at h2; cases h2
theorem Le.of_lt {a b : Rs} (h : lt a b = true) : Le a b := by
  unfold Le
  cases h2 : lt b a with
  | false => rfl
  | true =>
    have := lt_trans' h h2
    rw [lt_irr] at this; cases this
noncomputable def mn (a b : Rs) : Rs := if lt b a then b else a
theorem mn_or (a b : Rs) : mn a b = a ∨ mn a b = b := by
  unfold mn
  split
  · exact .inr rfl
  · exact .inl rfl
theorem mn_left (a b : Rs) : Le (mn a b) a := by
  unfold mn
  split
  · rename_i h; exact .of_lt h
  · exact .refl a
theorem mn_right (a b : Rs) : Le (mn a b) b := by
  unfold mn
  split
  · exact .refl b
  · rename_i h
    exact Bool.eq_false_iff.mpr h
theorem lt_sh {a b : Rs} (k : Nat) (r s : Rw) (h : llt r s = llt a.2 b.2) : lt (a.1 + k, r) (b.1 + k, s) = lt a b := by
  unfold lt
  rw [h]
  by_cases h1 : a.1 < b.1
  · rw [if_pos h1, if_pos (show a.1 + k < b.1 + k by omega)]
  · rw [if_neg h1, if_neg (show ¬ a.1 + k < b.1 + k by omega)]
    by_cases h2 : b.1 < a.1
    · rw [if_pos h2, if_pos (show b.1 + k < a.1 + k by omega)]
    · rw [if_neg h2, if_neg (show ¬ b.1 + k < a.1 + k by omega)]
theorem Le.skip {a b : Rs} (k : Nat) (h : Le a b) : Le (a.1 + k, a.2) (b.1 + k, b.2) := by
  unfold Le at *
  rw [lt_sh k _ _ rfl]; exact h
theorem Le.cons {a b : Rs} (k : Nat) (p : Nat × Nat) (h : Le a b) : Le (a.1 + k, p :: a.2) (b.1 + k, p :: b.2) := by
  unfold Le at *
  rw [lt_sh k _ _ (by obtain ⟨x, y⟩ := p; simp [llt])]; exact h
theorem llt_snoc (p : Nat × Nat) : ∀ r s : Rw, r.length = s.length → llt (r ++ [p]) (s ++ [p]) = llt r s
  | [], [], _ => by obtain ⟨x, y⟩ := p; simp [llt]
  | [], _ :: _, h => by simp at h
  | _ :: _, [], h => by simp at h
  | (a, b) :: r, (c, d) :: s, h => by
    have ih := llt_snoc p r s (by simpa using h)
    simp only [List.cons_append, llt, ih]
theorem Le.snoc {a b : Rs} (k : Nat) (p : Nat × Nat) (hl : a.2.length = b.2.length) (h : Le a b) : Le (a.1 + k, a.2 ++ [p]) (b.1 + k, b.2 ++ [p]) := by
  unfold Le at *
  rw [lt_sh k _ _ (llt_snoc p _ _ hl.symm)]; exact h
noncomputable def IsMin (S : Rs → Prop) (r : Rs) : Prop := S r ∧ ∀ x, S x → Le r x
theorem IsMin.uniq {S : Rs → Prop} {a b : Rs} (h1 : IsMin S a) (h2 : IsMin S b) : a = b := Le.anti (h1.2 _ h2.1) (h2.2 _ h1.1)
theorem fold_mn {α : Type} (f : α → Rs) : ∀ (l : List α) (b : Rs), (l.foldl (fun b p => mn b (f p)) b = b ∨ ∃ p ∈ l, l.foldl (fun b p => mn b (f p)) b = f p) ∧ Le (l.foldl (fun b p => mn b (f p)) b) b ∧ ∀ p ∈ l, Le (l.foldl (fun b p => mn b (f p)) b) (f p)
  | [], b => ⟨.inl rfl, .refl b, fun _ h => nomatch h⟩
  | p :: l, b => by
    obtain ⟨h1, h2, h3⟩ := fold_mn f l (mn b (f p))
    simp only [List.foldl_cons]
    refine ⟨?_, h2.trans (mn_left _ _), fun q hq => ?_⟩
    · rcases h1 with h1 | ⟨q, hq, h1⟩
      · rw [h1]
        rcases mn_or b (f p) with e | e
        · rw [e]; exact .inl rfl
        · rw [e]; exact .inr ⟨p, List.mem_cons_self, rfl⟩
      · exact .inr ⟨q, List.mem_cons_of_mem _ hq, h1⟩
    · rcases List.mem_cons.mp hq with e | hq
      · subst e; exact h2.trans (mn_right _ _)
      · exact h3 q hq
noncomputable abbrev Ch := List (Option Nat)
noncomputable def pls (ch : Ch) : List Nat := ch.filterMap id
noncomputable def rowsOf : Nat → Ch → Rw
  | _, [] => []
  | i, none :: c => rowsOf (i + 1) c
  | i, some p :: c => (i, p) :: rowsOf (i + 1) c
noncomputable def costOf (C : Nat → Nat → Nat) : Nat → Ch → Nat
  | _, [] => 0
  | i, none :: c => costOf C (i + 1) c + 2
  | i, some p :: c => costOf C (i + 1) c + C i p
noncomputable def OkC (left : List Nat) (ch : Ch) : Prop := (pls ch).Nodup ∧ ∀ p ∈ pls ch, p ∈ left
theorem pls_none (ch : Ch) : pls (none :: ch) = pls ch := rfl
theorem pls_some (p : Nat) (ch : Ch) : pls (some p :: ch) = p :: pls ch := rfl
theorem rows_len (C : Nat → Nat → Nat) : ∀ (i : Nat) (ch : Ch), (rowsOf i ch).length = (pls ch).length
  | _, [] => rfl
  | i, none :: c => by rw [pls_none]; exact rows_len C (i + 1) c
  | i, some p :: c => by rw [pls_some]; show (rowsOf (i + 1) c).length + 1 = (pls c).length + 1; rw [rows_len C (i + 1) c]
noncomputable def Sb (C : Nat → Nat → Nat) (k i : Nat) (left : List Nat) (x : Rs) : Prop := ∃ ch : Ch, ch.length = k ∧ OkC left ch ∧ x = (costOf C i ch + 2 * (left.length - (pls ch).length), rowsOf i ch)
noncomputable def rest (left : List Nat) (p : Nat) : List Nat := left.filter (fun q => !decide (q = p))
noncomputable def fit (C : Nat → Nat → Nat) : Nat → Nat → List Nat → Rs
  | 0, _, left => (2 * left.length, [])
  | k + 1, i, left => left.foldl (fun b p => mn b ((fit C k (i + 1) (rest left p)).1 + C i p, (i, p) :: (fit C k (i + 1) (rest left p)).2)) ((fit C k (i + 1) left).1 + 2, (fit C k (i + 1) left).2)
theorem rest_nd {left : List Nat} {p : Nat} (h : left.Nodup) : (rest left p).Nodup := h.filter _
theorem rest_mem {left : List Nat} {p q : Nat} : q ∈ rest left p ↔ q ∈ left ∧ q ≠ p := by
  unfold rest
  rw [List.mem_filter]
  simp
theorem rest_len : ∀ {left : List Nat} {p : Nat}, left.Nodup → p ∈ left → left.length = (rest left p).length + 1
  | [], _, _, h => nomatch h
  | x :: l, p, nd, h => by
    rw [List.nodup_cons] at nd
    by_cases e : x = p
    · subst e
      have : rest (x :: l) x = l := by
        unfold rest
        rw [List.filter_cons, if_neg (by simp)]
        refine List.filter_eq_self.mpr fun y hy => ?_
        have : y ≠ x := fun z => nd.1 (z ▸ hy)
        simp [this]
      rw [this, List.length_cons]
    · have hp : p ∈ l := by
        rcases List.mem_cons.mp h with z | z
        · exact absurd z.symm e
        · exact z
      have ih := rest_len nd.2 hp
      have : rest (x :: l) p = x :: rest l p := by
        unfold rest
        rw [List.filter_cons, if_pos (by simp [e])]
      rw [this, List.length_cons, List.length_cons, ih]
theorem nd_le {l m : List Nat} (h : l.Nodup) (s : ∀ p ∈ l, p ∈ m) : l.length ≤ m.length := by
  induction l generalizing m with
  | nil => exact Nat.zero_le _
  | cons x l ih =>
    rw [List.nodup_cons] at h
    have hx := s x List.mem_cons_self
    have := ih (m := m.erase x) h.2 fun p hp => by
      have ne : p ≠ x := fun e => h.1 (by rw [← e]; exact hp)
      exact (List.mem_erase_of_ne ne).mpr (s p (List.mem_cons_of_mem _ hp))
    rw [List.length_erase_of_mem hx] at this
    have : 0 < m.length := List.length_pos_of_mem hx
    rw [List.length_cons]
    omega
theorem fit_min (C : Nat → Nat → Nat) : ∀ (k i : Nat) (left : List Nat), left.Nodup → IsMin (Sb C k i left) (fit C k i left)
  | 0, i, left, nd => by
    refine ⟨⟨[], rfl, ⟨List.nodup_nil, fun _ h => nomatch h⟩, ?_⟩, ?_⟩
    · show (2 * left.length, []) = (0 + 2 * (left.length - 0), [])
      rw [Nat.zero_add, Nat.sub_zero]
    · rintro x ⟨ch, h1, h2, rfl⟩
      obtain rfl : ch = [] := List.length_eq_zero_iff.mp h1
      show Le (2 * left.length, []) (0 + 2 * (left.length - 0), [])
      rw [Nat.zero_add, Nat.sub_zero]
      exact .refl _
  | k + 1, i, left, nd => by
    have ih := fit_min C k (i + 1)
    obtain ⟨h1, h2, h3⟩ := fold_mn (fun p => ((fit C k (i + 1) (rest left p)).1 + C i p, (i, p) :: (fit C k (i + 1) (rest left p)).2)) left ((fit C k (i + 1) left).1 + 2, (fit C k (i + 1) left).2)
    refine ⟨?_, ?_⟩
    · show Sb C (k + 1) i left (left.foldl _ _)
      rcases h1 with e | ⟨p, hp, e⟩
      · rw [e]
        obtain ⟨ch, c1, c2, c3⟩ := (ih left nd).1
        refine ⟨none :: ch, by rw [List.length_cons, c1], c2, ?_⟩
        rw [c3, pls_none]
        show (_ + 2 * _ + 2, _) = (_ + 2 + 2 * _, _)
        rw [Nat.add_right_comm]
        rfl
      · rw [e]
        obtain ⟨ch, c1, c2, c3⟩ := (ih (rest left p) (rest_nd nd)).1
        refine ⟨some p :: ch, by rw [List.length_cons, c1], ⟨?_, fun q hq => ?_⟩, ?_⟩
        · rw [pls_some, List.nodup_cons]
          exact ⟨fun z => (rest_mem.mp (c2.2 _ z)).2 rfl, c2.1⟩
        · rw [pls_some] at hq
          rcases List.mem_cons.mp hq with z | z
          · rw [z]; exact hp
          · exact (rest_mem.mp (c2.2 _ z)).1
        · rw [c3, pls_some, rest_len nd hp, List.length_cons]
          show (_ + 2 * _ + C i p, _) = (_ + C i p + 2 * _, _)
          rw [Nat.add_right_comm, Nat.add_sub_add_right]
          rfl
    · rintro x ⟨ch, c1, c2, rfl⟩
      show Le (left.foldl _ _) _
      cases ch with
      | nil => cases c1
      | cons o ch =>
        have c1' : ch.length = k := by simpa using c1
        cases o with
        | none =>
          have q := (ih left nd).2 _ ⟨ch, c1', c2, rfl⟩
          refine h2.trans ?_
          have := q.skip 2
          rw [show costOf C i (none :: ch) + 2 * (left.length - (pls (none :: ch)).length) = costOf C (i + 1) ch + 2 * (left.length - (pls ch).length) + 2 from by rw [pls_none]; show costOf C (i + 1) ch + 2 + _ = _; omega]
          exact this
        | some p =>
          have hp : p ∈ left := c2.2 p (by rw [pls_some]; exact List.mem_cons_self)
          have nd' := c2.1
          rw [pls_some, List.nodup_cons] at nd'
          have ok : OkC (rest left p) ch := ⟨nd'.2, fun q hq => rest_mem.mpr ⟨c2.2 q (by rw [pls_some]; exact List.mem_cons_of_mem _ hq), fun e => nd'.1 (e ▸ hq)⟩⟩
          have q := (ih (rest left p) (rest_nd nd)).2 _ ⟨ch, c1', ok, rfl⟩
          refine (h3 p hp).trans ?_
          have := q.cons (C i p) (i, p)
          rw [show costOf C i (some p :: ch) + 2 * (left.length - (pls (some p :: ch)).length) = costOf C (i + 1) ch + 2 * ((rest left p).length - (pls ch).length) + C i p from by
            rw [pls_some, rest_len nd hp, List.length_cons, Nat.add_sub_add_right]
            show costOf C (i + 1) ch + C i p + _ = _
            omega]
          exact this
noncomputable abbrev At := List (List Nat × Rs)
noncomputable def lookA (A : At) (U : List Nat) : Option Rs := (A.find? fun kv => decide (kv.1 = U)).map (·.2)
noncomputable def putA (A : At) (U : List Nat) (r : Rs) : At := if (A.any fun kv => decide (kv.1 = U)) = true then A.map (fun kv => if kv.1 = U then (kv.1, r) else kv) else A ++ [(U, r)]
noncomputable def insS (U : List Nat) : List Nat := U.mergeSort fun a b => decide (a ≤ b)
noncomputable def someA (C : Nat → Nat → Nat) (n t : Nat) (U : List Nat) (r : Rs) : At := (U, (r.1 + 2, r.2)) :: ((List.range n).filter fun p => !decide (p ∈ U)).map fun p => (insS (U ++ [p]), (r.1 + C t p, r.2 ++ [(t, p)]))
noncomputable def stepA (A : At) (kv : List Nat × Rs) : At := putA A kv.1 (mn kv.2 ((lookA A kv.1).getD kv.2))
noncomputable def turnA (C : Nat → Nat → Nat) (n t : Nat) (B : At) (E : At) (U : List Nat) : At := (someA C n t U ((lookA B U).getD (0, []))).foldl stepA E
noncomputable def nextA (C : Nat → Nat → Nat) (n t : Nat) (B : At) : At := (B.map (·.1)).foldl (turnA C n t B) []
noncomputable def allA (C : Nat → Nat → Nat) (n : Nat) : Nat → At
  | 0 => [([], (0, []))]
  | t + 1 => nextA C n t (allA C n t)
theorem lookA_cons (kv : List Nat × Rs) (A : At) (V : List Nat) : lookA (kv :: A) V = if kv.1 = V then some kv.2 else lookA A V := by
  unfold lookA
  by_cases h : kv.1 = V
  · simp [List.find?_cons, h]
  · simp [List.find?_cons, h]
theorem lookA_any (A : At) (V : List Nat) : (A.any fun kv => decide (kv.1 = V)) = (lookA A V).isSome := by
  induction A with
  | nil => rfl
  | cons kv A ih =>
    rw [List.any_cons, ih, lookA_cons]
    by_cases h : kv.1 = V <;> simp [h]
theorem lookA_put (A : At) (U V : List Nat) (r : Rs) : lookA (putA A U r) V = if V = U then some r else lookA A V := by
  unfold putA
  by_cases h : (A.any fun kv => decide (kv.1 = U)) = true
  · rw [if_pos h]
    revert h
    induction A with
    | nil => intro h; cases h
    | cons kv A ih =>
      intro h
      rw [List.map_cons, lookA_cons, lookA_cons]
      rw [List.any_cons, Bool.or_eq_true, decide_eq_true_eq] at h
      by_cases hk : kv.1 = U
      · rw [if_pos hk]
        by_cases hv : V = U
        · rw [if_pos hv, if_pos (hk.trans hv.symm)]
        · rw [if_neg hv, if_neg (fun z => hv (z.symm.trans hk)), if_neg (fun z => hv (z.symm.trans hk))]
          by_cases ha : (A.any fun kv => decide (kv.1 = U)) = true
          · rw [ih ha, if_neg hv]
          · have : A.map (fun kv => if kv.1 = U then (kv.1, r) else kv) = A := by
              refine (List.map_congr_left fun x hx => ?_).trans (List.map_id A)
              rw [if_neg fun z => ha (List.any_eq_true.mpr ⟨x, hx, by simpa using z⟩)]
              rfl
            rw [this]
      · rw [if_neg hk]
        have ha : (A.any fun kv => decide (kv.1 = U)) = true := h.resolve_left hk
        rw [ih ha]
        by_cases hv : V = U
        · rw [if_neg (fun z => hk (z.trans hv)), if_pos hv, if_pos hv]
        · rw [if_neg hv, if_neg hv]
  · rw [if_neg h]
    rw [lookA_any] at h
    have hn : lookA A U = none := by simpa using h
    clear h
    induction A with
    | nil =>
      rw [List.nil_append, lookA_cons]
      by_cases hv : V = U
      · rw [if_pos hv, if_pos hv.symm]
      · rw [if_neg hv, if_neg (Ne.symm hv)]
    | cons kv A ih =>
      rw [lookA_cons] at hn
      by_cases hk : kv.1 = U
      · rw [if_pos hk] at hn; cases hn
      · rw [if_neg hk] at hn
        rw [List.cons_append, lookA_cons, ih hn, lookA_cons]
        by_cases hv : V = U
        · rw [if_pos hv, if_pos hv, if_neg (fun z => hk (z.trans hv))]
        · rw [if_neg hv, if_neg hv]
theorem put_len (A : At) (U : List Nat) (r : Rs) : (putA A U r).length ≤ A.length + 1 := by
  unfold putA
  split
  · rw [List.length_map]; omega
  · simp
theorem mem_look {A : At} {U : List Nat} : U ∈ A.map (·.1) ↔ (lookA A U).isSome = true := by
  rw [← lookA_any, List.any_eq_true, List.mem_map]
  constructor
  · rintro ⟨x, hx, e⟩; exact ⟨x, hx, by simpa using e⟩
  · rintro ⟨x, hx, e⟩; exact ⟨x, hx, by simpa using e⟩
theorem fold_step : ∀ (L E : At), (∀ U r, lookA (L.foldl stepA E) U = some r → lookA E U = some r ∨ (U, r) ∈ L) ∧ (∀ U x, (U, x) ∈ L → ∃ r, lookA (L.foldl stepA E) U = some r ∧ Le r x) ∧
    (∀ U x, lookA E U = some x → ∃ r, lookA (L.foldl stepA E) U = some r ∧ Le r x) ∧ (L.foldl stepA E).length ≤ E.length + L.length
  | [], E => ⟨fun U r h => .inl h, (fun _ _ h => nomatch h), fun U x h => ⟨x, h, .refl x⟩, Nat.le_refl _⟩
  | kv :: L, E => by
    obtain ⟨h1, h2, h3, h4⟩ := fold_step L (stepA E kv)
    have st : ∀ V, lookA (stepA E kv) V = if V = kv.1 then some (mn kv.2 ((lookA E kv.1).getD kv.2)) else lookA E V := fun V => lookA_put _ _ _ _
    rw [List.foldl_cons]
    refine ⟨fun U r h => ?_, fun U x h => ?_, fun U x h => ?_, ?_⟩
    · rcases h1 U r h with z | z
      · rw [st] at z
        by_cases e : U = kv.1
        · rw [if_pos e] at z
          cases z
          cases hE : lookA E kv.1 with
          | none =>
            rw [Option.getD_none]
            have : mn kv.2 kv.2 = kv.2 := by rcases mn_or kv.2 kv.2 with z | z <;> exact z
            rw [this, e]
            exact .inr List.mem_cons_self
          | some y =>
            rw [Option.getD_some]
            rcases mn_or kv.2 y with z | z
            · rw [z, e]; exact .inr List.mem_cons_self
            · rw [z, e]; exact .inl hE
        · rw [if_neg e] at z
          exact .inl z
      · exact .inr (List.mem_cons_of_mem _ z)
    · rcases List.mem_cons.mp h with z | z
      · subst z
        obtain ⟨r, g1, g2⟩ := h3 U _ (by rw [st, if_pos rfl])
        exact ⟨r, g1, g2.trans (mn_left _ _)⟩
      · exact h2 U x z
    · by_cases e : U = kv.1
      · obtain ⟨r, g1, g2⟩ := h3 U _ (by rw [st, if_pos e])
        refine ⟨r, g1, g2.trans ?_⟩
        rw [← e, h, Option.getD_some]
        exact mn_right _ _
      · exact h3 U x (by rw [st, if_neg e]; exact h)
    · have := put_len E kv.1 (mn kv.2 ((lookA E kv.1).getD kv.2))
      have : (stepA E kv).length ≤ E.length + 1 := this
      rw [List.length_cons]
      omega
theorem pls_snoc (ch : Ch) (o : Option Nat) : pls (ch ++ [o]) = pls ch ++ o.toList := by
  unfold pls
  rw [List.filterMap_append]
  cases o <;> rfl
theorem cost_snoc (C : Nat → Nat → Nat) (o : Option Nat) : ∀ (i : Nat) (ch : Ch), costOf C i (ch ++ [o]) = costOf C i ch + (match o with | none => 2 | some p => C (i + ch.length) p)
  | i, [] => by
    cases o with
    | none => show 0 + 2 = 0 + 2; rfl
    | some p => show 0 + C i p = 0 + C (i + 0) p; rfl
  | i, none :: c => by
    have ih := cost_snoc C o (i + 1) c
    show costOf C (i + 1) (c ++ [o]) + 2 = costOf C (i + 1) c + 2 + _
    rw [ih, List.length_cons, show i + 1 + c.length = i + (c.length + 1) from by omega]
    omega
  | i, some p :: c => by
    have ih := cost_snoc C o (i + 1) c
    show costOf C (i + 1) (c ++ [o]) + C i p = costOf C (i + 1) c + C i p + _
    rw [ih, List.length_cons, show i + 1 + c.length = i + (c.length + 1) from by omega]
    omega
theorem rows_snoc (o : Option Nat) : ∀ (i : Nat) (ch : Ch), rowsOf i (ch ++ [o]) = rowsOf i ch ++ (match o with | none => [] | some p => [(i + ch.length, p)])
  | i, [] => by cases o <;> rfl
  | i, none :: c => by
    have ih := rows_snoc o (i + 1) c
    show rowsOf (i + 1) (c ++ [o]) = rowsOf (i + 1) c ++ _
    rw [ih, List.length_cons, show i + 1 + c.length = i + (c.length + 1) from by omega]
  | i, some p :: c => by
    have ih := rows_snoc o (i + 1) c
    show (i, p) :: rowsOf (i + 1) (c ++ [o]) = (i, p) :: rowsOf (i + 1) c ++ _
    rw [ih, List.length_cons, show i + 1 + c.length = i + (c.length + 1) from by omega]
    rfl
noncomputable abbrev val (C : Nat → Nat → Nat) (ch : Ch) : Rs := (costOf C 0 ch, rowsOf 0 ch)
noncomputable def Tt (C : Nat → Nat → Nat) (n t : Nat) (U : List Nat) (x : Rs) : Prop := ∃ ch : Ch, ch.length = t ∧ OkC (List.range n) ch ∧ U.Perm (pls ch) ∧ x = val C ch
noncomputable abbrev Srt (U : List Nat) : Prop := U.Pairwise (· ≤ ·)
theorem ins_perm (U : List Nat) : (insS U).Perm U := List.mergeSort_perm _ _
theorem ins_srt (U : List Nat) : Srt (insS U) := by
  have := List.pairwise_mergeSort (le := fun a b : Nat => decide (a ≤ b)) (fun a b c h h' => by simp at h h' ⊢; omega) (fun a b => by simp; omega) U
  exact this.imp fun h => of_decide_eq_true h
theorem srt_uniq {U V : List Nat} (h1 : Srt U) (h2 : Srt V) (p : U.Perm V) : U = V := List.Perm.eq_of_pairwise (fun a b _ _ h h' => Nat.le_antisymm h h') h1 h2 p
structure GoodA (C : Nat → Nat → Nat) (n t : Nat) (A : At) : Prop where
  mem : ∀ U r, lookA A U = some r → Srt U ∧ IsMin (Tt C n t U) r
  all : ∀ ch : Ch, ch.length = t → OkC (List.range n) ch → ∃ U r, lookA A U = some r ∧ U.Perm (pls ch)
  len : A.length ≤ (n + 1) ^ t
theorem good_0 (C : Nat → Nat → Nat) (n : Nat) : GoodA C n 0 [([], (0, []))] := by
  refine ⟨fun U r h => ?_, fun ch h1 h2 => ?_, by simp⟩
  · rw [lookA_cons] at h
    split at h
    · rename_i e
      cases h
      subst e
      refine ⟨List.Pairwise.nil, ⟨[], rfl, ⟨List.nodup_nil, (fun _ h => nomatch h)⟩, .nil, rfl⟩, ?_⟩
      rintro x ⟨ch, c1, c2, c3, rfl⟩
      obtain rfl : ch = [] := List.length_eq_zero_iff.mp c1
      exact .refl _
    · cases h
  · obtain rfl : ch = [] := List.length_eq_zero_iff.mp h1
    exact ⟨[], _, rfl, .nil⟩
theorem some_in {C : Nat → Nat → Nat} {n t : Nat} {U V : List Nat} {r x : Rs} : (V, x) ∈ someA C n t U r ↔ ((V, x) = (U, (r.1 + 2, r.2))) ∨ ∃ p, p < n ∧ p ∉ U ∧ (V, x) = (insS (U ++ [p]), (r.1 + C t p, r.2 ++ [(t, p)])) := by
  unfold someA
  rw [List.mem_cons, List.mem_map]
  constructor
  · rintro (h | ⟨p, hp, h⟩)
    · exact .inl h
    · rw [List.mem_filter, List.mem_range] at hp
      exact .inr ⟨p, hp.1, by simpa using hp.2, h.symm⟩
  · rintro (h | ⟨p, h1, h2, h⟩)
    · exact .inl h
    · exact .inr ⟨p, by rw [List.mem_filter, List.mem_range]; exact ⟨h1, by simpa using h2⟩, h.symm⟩
theorem next_eq (C : Nat → Nat → Nat) (n t : Nat) (B : At) : nextA C n t B = ((B.map (·.1)).flatMap fun U => someA C n t U ((lookA B U).getD (0, []))).foldl stepA [] := by
  unfold nextA
  rw [List.foldl_flatMap]
  rfl
theorem some_len (C : Nat → Nat → Nat) (n t : Nat) (U : List Nat) (r : Rs) : (someA C n t U r).length ≤ n + 1 := by
  unfold someA
  rw [List.length_cons, List.length_map]
  have := List.length_filter_le (fun p => !decide (p ∈ U)) (List.range n)
  rw [List.length_range] at this
  omega
theorem good_next {C : Nat → Nat → Nat} {n t : Nat} {B : At} (G : GoodA C n t B) : GoodA C n (t + 1) (nextA C n t B) := by
  rw [next_eq]
  obtain ⟨f1, f2, f3, f4⟩ := fold_step ((B.map (·.1)).flatMap fun U => someA C n t U ((lookA B U).getD (0, []))) []
  generalize hF : ((B.map (·.1)).flatMap fun U => someA C n t U ((lookA B U).getD (0, []))).foldl stepA [] = F at f1 f2 f3 f4 ⊢
  -- what a set's row gives
  have from_ : ∀ V x, (V, x) ∈ ((B.map (·.1)).flatMap fun U => someA C n t U ((lookA B U).getD (0, []))) → ∃ U r, lookA B U = some r ∧ (V, x) ∈ someA C n t U r := by
    intro V x h
    obtain ⟨U, hU, h⟩ := List.mem_flatMap.mp h
    obtain ⟨r, hr⟩ := Option.isSome_iff_exists.mp (mem_look.mp hU)
    rw [hr, Option.getD_some] at h
    exact ⟨U, r, hr, h⟩
  have to_ : ∀ U r V x, lookA B U = some r → (V, x) ∈ someA C n t U r → ∃ y, lookA F V = some y ∧ Le y x := by
    intro U r V x hr h
    refine f2 V x (List.mem_flatMap.mpr ⟨U, mem_look.mpr (by rw [hr]; rfl), ?_⟩)
    rw [hr, Option.getD_some]
    exact h
  -- each way is met
  have met : ∀ ch : Ch, ch.length = t + 1 → OkC (List.range n) ch → ∃ V y, lookA F V = some y ∧ Srt V ∧ V.Perm (pls ch) ∧ Le y (val C ch) := by
    intro ch c1 c2
    obtain ⟨ch2, o, rfl⟩ : ∃ ch2 o, ch = ch2 ++ [o] := by
      have : ch ≠ [] := fun z => by rw [z] at c1; cases c1
      exact ⟨ch.dropLast, ch.getLast this, (List.dropLast_concat_getLast this).symm⟩
    have c1' : ch2.length = t := by simpa using c1
    have hp := c2.1
    have hq := c2.2
    rw [pls_snoc] at hp hq
    have ok2 : OkC (List.range n) ch2 := ⟨(List.nodup_append.mp hp).1, fun p h => hq p (List.mem_append_left _ h)⟩
    obtain ⟨U, r, hr, pU⟩ := G.all ch2 c1' ok2
    obtain ⟨sU, m1, m2⟩ := G.mem U r hr
    have lr := m2 _ ⟨ch2, c1', ok2, pU, rfl⟩
    obtain ⟨ch3, d1, d2, d3, d4⟩ := m1
    have hl : r.2.length = (rowsOf 0 ch2).length := by
      rw [d4]
      show (rowsOf 0 ch3).length = _
      rw [rows_len C, rows_len C, ← d3.length_eq, pU.length_eq]
    cases o with
    | none =>
      obtain ⟨y, g1, g2⟩ := to_ U r U (r.1 + 2, r.2) hr (some_in.mpr (.inl rfl))
      refine ⟨U, y, g1, sU, ?_, g2.trans ?_⟩
      · rw [pls_snoc]
        show U.Perm (pls ch2 ++ [])
        rw [List.append_nil]; exact pU
      · have e1 := cost_snoc C none 0 ch2
        have e2 := rows_snoc none 0 ch2
        show Le (r.1 + 2, r.2) (costOf C 0 (ch2 ++ [none]), rowsOf 0 (ch2 ++ [none]))
        rw [e1, e2]
        show Le (r.1 + 2, r.2) (costOf C 0 ch2 + 2, rowsOf 0 ch2 ++ [])
        rw [List.append_nil]
        exact lr.skip 2
    | some p =>
      have hpn : p < n := List.mem_range.mp (hq p (List.mem_append_right _ List.mem_cons_self))
      have hpU : p ∉ U := fun z => (List.nodup_append.mp hp).2.2 p (pU.mem_iff.mp z) p List.mem_cons_self rfl
      obtain ⟨y, g1, g2⟩ := to_ U r _ _ hr (some_in.mpr (.inr ⟨p, hpn, hpU, rfl⟩))
      refine ⟨_, y, g1, ins_srt _, ?_, g2.trans ?_⟩
      · rw [pls_snoc]
        exact (ins_perm _).trans (pU.append_right _)
      · have e1 := cost_snoc C (some p) 0 ch2
        have e2 := rows_snoc (some p) 0 ch2
        show Le (r.1 + C t p, r.2 ++ [(t, p)]) (costOf C 0 (ch2 ++ [some p]), rowsOf 0 (ch2 ++ [some p]))
        rw [e1, e2]
        show Le (r.1 + C t p, r.2 ++ [(t, p)]) (costOf C 0 ch2 + C (0 + ch2.length) p, rowsOf 0 ch2 ++ [(0 + ch2.length, p)])
        rw [Nat.zero_add, c1']
        exact lr.snoc (C t p) (t, p) hl
  -- what stands comes of a way
  have came : ∀ V y, lookA F V = some y → Srt V ∧ Tt C n (t + 1) V y := by
    intro V y h
    rcases f1 V y h with z | z
    · cases z
    · obtain ⟨U, r, hr, h⟩ := from_ V y z
      obtain ⟨sU, ⟨ch, d1, d2, d3, d4⟩, _⟩ := G.mem U r hr
      rcases some_in.mp h with e | ⟨p, p1, p2, e⟩
      · obtain ⟨e1, e2⟩ := Prod.mk.inj e
        subst e1
        refine ⟨sU, ch ++ [none], by simp [d1], ?_, ?_, ?_⟩
        · have e : pls (ch ++ [none]) = pls ch := by rw [pls_snoc]; exact List.append_nil _
          unfold OkC; rw [e]; exact d2
        · rw [pls_snoc]; show V.Perm (pls ch ++ []); rw [List.append_nil]; exact d3
        · have e1 := cost_snoc C none 0 ch
          have e3 := rows_snoc none 0 ch
          show y = (costOf C 0 (ch ++ [none]), rowsOf 0 (ch ++ [none]))
          rw [e1, e3, e2, d4]
          show (costOf C 0 ch + 2, rowsOf 0 ch) = (costOf C 0 ch + 2, rowsOf 0 ch ++ [])
          rw [List.append_nil]
      · obtain ⟨e1, e2⟩ := Prod.mk.inj e
        subst e1
        have npc : p ∉ pls ch := fun z => p2 (d3.mem_iff.mpr z)
        refine ⟨ins_srt _, ch ++ [some p], by simp [d1], ?_, ?_, ?_⟩
        · unfold OkC
          rw [pls_snoc]
          refine ⟨List.nodup_append.mpr ⟨d2.1, by simp, fun a ha b hb => ?_⟩, fun q hq => ?_⟩
          · rw [show b = p from by simpa using hb]
            exact fun z => npc (by rw [← z]; exact ha)
          · rcases List.mem_append.mp hq with z | z
            · exact d2.2 q z
            · rw [show q = p from by simpa using z]
              exact List.mem_range.mpr p1
        · rw [pls_snoc]
          exact (ins_perm _).trans (d3.append_right _)
        · have e1 := cost_snoc C (some p) 0 ch
          have e3 := rows_snoc (some p) 0 ch
          show y = (costOf C 0 (ch ++ [some p]), rowsOf 0 (ch ++ [some p]))
          rw [e1, e3, e2, d4]
          show (costOf C 0 ch + C t p, rowsOf 0 ch ++ [(t, p)]) = (costOf C 0 ch + C (0 + ch.length) p, rowsOf 0 ch ++ [(0 + ch.length, p)])
          rw [Nat.zero_add, d1]
  refine ⟨fun V y h => ?_, fun ch c1 c2 => ?_, ?_⟩
  · obtain ⟨sV, tV⟩ := came V y h
    refine ⟨sV, tV, ?_⟩
    rintro x ⟨ch, c1, c2, c3, rfl⟩
    obtain ⟨V2, y2, g1, g2, g3, g4⟩ := met ch c1 c2
    have : V2 = V := srt_uniq g2 sV (g3.trans c3.symm)
    subst this
    rw [h] at g1
    cases g1
    exact g4
  · obtain ⟨V, y, g1, g2, g3, g4⟩ := met ch c1 c2
    exact ⟨V, y, g1, g3⟩
  · refine Nat.le_trans f4 ?_
    rw [List.length_nil, Nat.zero_add, Nat.pow_succ]
    have : ∀ l : List (List Nat), (l.flatMap fun U => someA C n t U ((lookA B U).getD (0, []))).length ≤ l.length * (n + 1) := by
      intro l
      induction l with
      | nil => simp
      | cons U l ih =>
        rw [List.flatMap_cons, List.length_append, List.length_cons, Nat.succ_mul]
        have := some_len C n t U ((lookA B U).getD (0, []))
        omega
    have q := this (B.map (·.1))
    rw [List.length_map] at q
    exact Nat.le_trans q (Nat.mul_le_mul_right _ G.len)
theorem good_all (C : Nat → Nat → Nat) (n : Nat) : ∀ t, GoodA C n t (allA C n t)
  | 0 => good_0 C n
  | t + 1 => good_next (good_all C n t)
noncomputable def finA (n : Nat) (A : At) : List Rs := (A.map (·.1)).map fun U => (((lookA A U).getD (0, [])).1 + 2 * (n - U.length), ((lookA A U).getD (0, [])).2)
theorem fin_min {C : Nat → Nat → Nat} {n m : Nat} {A : At} (G : GoodA C n m A) : ∃ x xs, finA n A = x :: xs ∧ xs.foldl mn x = fit C m 0 (List.range n) := by
  have ne : finA n A ≠ [] := by
    obtain ⟨U, r, hr, _⟩ := G.all (List.replicate m none) (by simp) (by
      have : pls (List.replicate m none) = [] := by
        unfold pls
        induction m with
        | zero => rfl
        | succ m ih => rw [List.replicate_succ, List.filterMap_cons]; exact List.filterMap_replicate_of_none rfl
      unfold OkC
      rw [this]
      exact ⟨List.nodup_nil, (fun _ h => nomatch h)⟩)
    have : U ∈ A.map (·.1) := mem_look.mpr (by rw [hr]; rfl)
    intro z
    unfold finA at z
    rw [List.map_eq_nil_iff] at z
    rw [z] at this
    cases this
  cases hx : finA n A with
  | nil => exact absurd hx ne
  | cons x xs =>
    refine ⟨x, xs, rfl, ?_⟩
    obtain ⟨h1, h2, h3⟩ := fold_mn (fun y : Rs => y) xs x
    have hin : ∀ y, y ∈ finA n A ↔ ∃ U r, lookA A U = some r ∧ y = (r.1 + 2 * (n - U.length), r.2) := by
      intro y
      unfold finA
      rw [List.mem_map]
      constructor
      · rintro ⟨U, hU, rfl⟩
        obtain ⟨r, hr⟩ := Option.isSome_iff_exists.mp (mem_look.mp hU)
        exact ⟨U, r, hr, by rw [hr, Option.getD_some]⟩
      · rintro ⟨U, r, hr, rfl⟩
        exact ⟨U, mem_look.mpr (by rw [hr]; rfl), by rw [hr, Option.getD_some]⟩
    have memF : xs.foldl mn x ∈ finA n A := by
      rw [hx]
      rcases h1 with e | ⟨p, hp, e⟩
      · have e : xs.foldl mn x = x := e
        rw [e]; exact List.mem_cons_self
      · have e : xs.foldl mn x = p := e
        rw [e]; exact List.mem_cons_of_mem _ hp
    refine IsMin.uniq (S := Sb C m 0 (List.range n)) ⟨?_, fun y hy => ?_⟩ (fit_min C m 0 _ List.nodup_range)
    · obtain ⟨U, r, hr, e⟩ := (hin _).mp memF
      rw [e]
      obtain ⟨_, ⟨ch, c1, c2, c3, c4⟩, _⟩ := G.mem U r hr
      refine ⟨ch, c1, c2, ?_⟩
      rw [c4, List.length_range, c3.length_eq]
    · obtain ⟨ch, c1, c2, rfl⟩ := hy
      obtain ⟨U, r, hr, pU⟩ := G.all ch c1 c2
      have lr := (G.mem U r hr).2.2 _ ⟨ch, c1, c2, pU, rfl⟩
      have hm : (r.1 + 2 * (n - U.length), r.2) ∈ finA n A := (hin _).mpr ⟨U, r, hr, rfl⟩
      have le : Le (xs.foldl mn x) (r.1 + 2 * (n - U.length), r.2) := by
        rw [hx] at hm
        rcases List.mem_cons.mp hm with z | z
        · rw [z]; exact h2
        · exact h3 _ z
      refine le.trans ?_
      rw [List.length_range, ← pU.length_eq]
      exact lr.skip _
end K09

end

section
set_option Elab.async false
set_option linter.all false
set_option maxRecDepth 100000
set_option maxHeartbeats 2000000
namespace K09
open PySem PySem.Spec PyProof.Rows L2 VL SM SN SP SH
theorem lookP_cons {κ : Type} [DecidableEq κ] (kv : κ × PyData) (A : List (κ × PyData)) (V : κ) : lookP (kv :: A) V = if kv.1 = V then some kv.2 else lookP A V := by
  unfold lookP
  by_cases h : kv.1 = V
  · simp [List.find?_cons, h]
  · simp [List.find?_cons, h]
theorem lookP_any {κ : Type} [DecidableEq κ] (A : List (κ × PyData)) (V : κ) : (A.any fun kv => decide (kv.1 = V)) = (lookP A V).isSome := by
  induction A with
  | nil => rfl
  | cons kv A ih =>
    rw [List.any_cons, ih, lookP_cons]
    by_cases h : kv.1 = V <;> simp [h]
theorem lookP_put {κ : Type} [DecidableEq κ] (A : List (κ × PyData)) (U V : κ) (r : PyData) : lookP (putP A U r) V = if V = U then some r else lookP A V := by
  unfold putP
  by_cases h : (A.any fun kv => decide (kv.1 = U)) = true
  · rw [if_pos h]
    revert h
    induction A with
    | nil => intro h; cases h
    | cons kv A ih =>
      intro h
      rw [List.map_cons, lookP_cons, lookP_cons]
      rw [List.any_cons, Bool.or_eq_true, decide_eq_true_eq] at h
      by_cases hk : kv.1 = U
      · rw [if_pos hk]
        by_cases hv : V = U
        · rw [if_pos hv, if_pos (hk.trans hv.symm)]
        · rw [if_neg hv, if_neg (fun z => hv (z.symm.trans hk)), if_neg (fun z => hv (z.symm.trans hk))]
          by_cases ha : (A.any fun kv => decide (kv.1 = U)) = true
          · rw [ih ha, if_neg hv]
          · have : A.map (fun kv => if kv.1 = U then (kv.1, r) else kv) = A := by
              refine (List.map_congr_left fun x hx => ?_).trans (List.map_id A)
              rw [if_neg fun z => ha (List.any_eq_true.mpr ⟨x, hx, by simpa using z⟩)]
              rfl
            rw [this]
      · rw [if_neg hk]
        have ha : (A.any fun kv => decide (kv.1 = U)) = true := h.resolve_left hk
        rw [ih ha]
        by_cases hv : V = U
        · rw [if_neg (fun z => hk (z.trans hv)), if_pos hv, if_pos hv]
        · rw [if_neg hv, if_neg hv]
  · rw [if_neg h]
    rw [lookP_any] at h
    have hn : lookP A U = none := by simpa using h
    clear h
    induction A with
    | nil =>
      rw [List.nil_append, lookP_cons]
      by_cases hv : V = U
      · rw [if_pos hv, if_pos hv.symm]
      · rw [if_neg hv, if_neg (Ne.symm hv)]
    | cons kv A ih =>
      rw [lookP_cons] at hn
      by_cases hk : kv.1 = U
      · rw [if_pos hk] at hn; cases hn
      · rw [if_neg hk] at hn
        rw [List.cons_append, lookP_cons, ih hn, lookP_cons]
        by_cases hv : V = U
        · rw [if_pos hv, if_pos hv, if_neg (fun z => hk (z.trans hv))]
        · rw [if_neg hv, if_neg hv]
theorem putP_len {κ : Type} [DecidableEq κ] (A : List (κ × PyData)) (U : κ) (r : PyData) : (putP A U r).length ≤ A.length + 1 := by
  unfold putP
  split
  · rw [List.length_map]; omega
  · simp
noncomputable def rowD (p : Nat × Nat) : PyData := .tuple [.int (p.1 : Nat), .int (p.2 : Nat)]
noncomputable def rT (r : Rs) : PyData := .tuple [.int (r.1 : Nat), .tuple (r.2.map rowD)]
noncomputable def rL (r : Rs) : PyData := .tuple [.int (r.1 : Nat), .list (r.2.map rowD)]
noncomputable def uL (U : List Nat) : List PyData := U.map fun p => .int (p : Nat)
noncomputable def uD (U : List Nat) : PyData := .tuple (uL U)
noncomputable def kN (U : List Nat) : NestedKey := .tup (U.map fun p => .num (p : Nat))
noncomputable def kK (i : Nat) (U : List Nat) : NestedKey := .tup [.num (i : Nat), kN U]
theorem kN_data (U : List Nat) : (kN U).data = uD U := by
  show PyData.tuple (NestedKey.datas (U.map fun p => .num (p : Nat))) = .tuple (uL U)
  congr 1
  induction U with
  | nil => rfl
  | cons p U ih =>
    show NestedKey.data (.num (p : Nat)) :: NestedKey.datas (U.map fun p => .num (p : Nat)) = .int (p : Nat) :: uL U
    rw [ih]; rfl
theorem nums_inj : ∀ {U V : List Nat}, (U.map fun p => NestedKey.num (p : Nat)) = (V.map fun p => NestedKey.num (p : Nat)) → U = V
  | [], [], _ => rfl
  | [], _ :: _, h => by simp at h
  | _ :: _, [], h => by simp at h
  | a :: U, b :: V, h => by
    rw [List.map_cons, List.map_cons] at h
    injection h with h1 h2
    injection h1 with h1
    rw [nums_inj h2, Int.ofNat.inj h1]
theorem kN_inj {U V : List Nat} : kN U = kN V ↔ U = V := by
  constructor
  · intro h
    unfold kN at h
    injection h with h
    exact nums_inj h
  · rintro rfl; rfl
theorem kK_inj {i j : Nat} {U V : List Nat} : kK i U = kK j V ↔ i = j ∧ U = V := by
  constructor
  · intro h
    unfold kK at h
    injection h with h
    injection h with h1 h2
    injection h1 with h1
    injection h2 with h2 _
    exact ⟨Int.ofNat.inj h1, kN_inj.mp h2⟩
  · rintro ⟨rfl, rfl⟩; rfl
theorem nkD_u : ∀ U : List Nat, nkDs (uL U) = some (U.map fun p => NestedKey.num (p : Nat))
  | [] => rfl
  | p :: U => by
    show (match nkD (.int (p : Nat)), nkDs (uL U) with
      | some k, some ks => some (k :: ks)
      | _, _ => none) = _
    rw [nkD_u U]; rfl
theorem nkI_u : ∀ U : List Nat, nkIs (U.map fun p => NestedKey.num (p : Nat)) = true
  | [] => rfl
  | p :: U => by
    show (nkI (.num (p : Nat)) && nkIs (U.map fun p => NestedKey.num (p : Nat))) = true
    rw [nkI_u U]; rfl
theorem dep_u : ∀ U : List Nat, NestedKey.depthAll (U.map fun p => NestedKey.num (p : Nat)) = 0
  | [] => rfl
  | p :: U => by
    show max (NestedKey.depth (.num (p : Nat))) (NestedKey.depthAll (U.map fun p => NestedKey.num (p : Nat))) = 0
    rw [dep_u U]; rfl
theorem nk_u (U : List Nat) : nkT (uD U) = some (kN U) := by
  have e : nkD (uD U) = some (kN U) := by
    show (nkDs (uL U)).map NestedKey.tup = _
    rw [nkD_u]; rfl
  have o : nkOk (kN U) = true := by
    show (true && nkIs (U.map fun p => NestedKey.num (p : Nat)) && decide (NestedKey.depthAll (U.map fun p => NestedKey.num (p : Nat)) + 1 ≤ 8)) = true
    rw [nkI_u, dep_u]; rfl
  unfold nkT
  rw [e]
  show (if nkOk (kN U) = true then _ else _) = _
  rw [if_pos o]
theorem nk_k (i : Nat) (U : List Nat) : nkT (.tuple [.int (i : Nat), uD U]) = some (kK i U) := by
  have e0 : nkD (uD U) = some (kN U) := by
    show (nkDs (uL U)).map NestedKey.tup = _
    rw [nkD_u]; rfl
  have e : nkD (.tuple [.int (i : Nat), uD U]) = some (kK i U) := by
    show (match nkD (.int (i : Nat)), (match nkD (uD U), nkDs [] with
      | some k, some ks => some (k :: ks)
      | _, _ => none) with
      | some k, some ks => some (k :: ks)
      | _, _ => none).map NestedKey.tup = _
    rw [e0]; rfl
  have o : nkOk (kK i U) = true := by
    show (true && (true && (nkIs (U.map fun p => NestedKey.num (p : Nat)) && true)) && decide (max 0 (max (NestedKey.depthAll (U.map fun p => NestedKey.num (p : Nat)) + 1) 0) + 1 ≤ 8)) = true
    rw [nkI_u, dep_u]; rfl
  unfold nkT
  rw [e]
  show (if nkOk (kK i U) = true then _ else _) = _
  rw [if_pos o]
theorem lexI (a b : Int) (l m : List (Int ⊕ List Nat)) : PyProof.Rows.lexLt itemOrd (.inl a :: l) (.inl b :: m) = if a < b then true else if b < a then false else PyProof.Rows.lexLt itemOrd l m := by
  by_cases h : a = b
  · subst h
    rw [if_neg (Int.lt_irrefl a), if_neg (Int.lt_irrefl a)]
    exact PySem.W.lex_pre [.inl a] l m
  · have ne : (Sum.inl a : Int ⊕ List Nat) ≠ .inl b := fun z => h (Sum.inl.inj z)
    rw [PySem.W.lex_atom ne, PySem.W.lex_one]
    show decide (a < b) = _
    by_cases h1 : a < b
    · rw [if_pos h1, decide_eq_true h1]
    · rw [if_neg h1, decide_eq_false h1, if_pos (by omega)]
theorem lexS (a : Int) (l m : List (Int ⊕ List Nat)) : PyProof.Rows.lexLt itemOrd (.inl a :: l) (.inl a :: m) = PyProof.Rows.lexLt itemOrd l m := PySem.W.lex_pre [.inl a] l m
theorem lexN (a b : Nat) (l m : List (Int ⊕ List Nat)) : PyProof.Rows.lexLt itemOrd (.inl (a : Int) :: l) (.inl (b : Int) :: m) = if a < b then true else if b < a then false else PyProof.Rows.lexLt itemOrd l m := by
  rw [lexI]
  by_cases h1 : a < b
  · rw [if_pos h1, if_pos (by omega)]
  · rw [if_neg h1, if_neg (by omega)]
    by_cases h2 : b < a
    · rw [if_pos h2, if_pos (by omega)]
    · rw [if_neg h2, if_neg (by omega)]
theorem lex_rows : ∀ r s : Rw, PyProof.Rows.lexLt itemOrd (PySem.W.keyToksAll (r.map rowD)) (PySem.W.keyToksAll (s.map rowD)) = llt r s
  | [], [] => rfl
  | [], q :: s => by
    show PyProof.Rows.lexLt itemOrd [.inl 0] (.inl 1 :: _) = true
    rw [lexI]; rfl
  | p :: r, [] => by
    show PyProof.Rows.lexLt itemOrd (.inl 1 :: _) [.inl 0] = false
    rw [lexI]; rfl
  | (a, b) :: r, (c, d) :: s => by
    have ih := lex_rows r s
    show PyProof.Rows.lexLt itemOrd (.inl 1 :: .inl 1 :: .inl (a : Nat) :: .inl 1 :: .inl (b : Nat) :: .inl 0 :: PySem.W.keyToksAll (r.map rowD)) (.inl 1 :: .inl 1 :: .inl (c : Nat) :: .inl 1 :: .inl (d : Nat) :: .inl 0 :: PySem.W.keyToksAll (s.map rowD)) = _
    rw [lexS, lexS, lexN, lexS, lexN, lexS, ih]
    rfl
theorem eqv_row (p q : Nat × Nat) : PyData.eqv (rowD p) (rowD q) = decide (p = q) := by
  obtain ⟨a, b⟩ := p
  obtain ⟨c, d⟩ := q
  show PyData.eqvAll [.int (a : Nat), .int (b : Nat)] [.int (c : Nat), .int (d : Nat)] = _
  rw [PyData.eqvAll, PyData.eqvAll, PyData.eqvAll, PyData.eqv, PyData.eqv, Bool.eq_iff_iff]
  simp
  omega
theorem alike_row (p q : Nat × Nat) : PySem.W.alike (rowD p) (rowD q) = true := by
  show PySem.W.alikeAll [.int (p.1 : Nat), .int (p.2 : Nat)] [.int (q.1 : Nat), .int (q.2 : Nat)] = true
  simp [PySem.W.alikeAll, PySem.W.alike]
theorem alike_rows : ∀ r s : Rw, PySem.W.alikeAll (r.map rowD) (s.map rowD) = true
  | [], _ => by simp [PySem.W.alikeAll]
  | _ :: _, [] => by simp [PySem.W.alikeAll]
  | p :: r, q :: s => by
    rw [List.map_cons, List.map_cons, PySem.W.alikeAll, alike_row, alike_rows r s]; rfl
theorem eqv_rows : ∀ r s : Rw, PyData.eqvAll (r.map rowD) (s.map rowD) = decide (r = s)
  | [], [] => by simp [PyData.eqvAll]
  | [], _ :: _ => by simp [PyData.eqvAll]
  | _ :: _, [] => by simp [PyData.eqvAll]
  | p :: r, q :: s => by
    rw [List.map_cons, List.map_cons, PyData.eqvAll, eqv_row, eqv_rows r s, Bool.eq_iff_iff]
    simp
theorem lex_cr (a c : Nat) (r s : Rw) : PyProof.Rows.lexLt itemOrd (.inl 1 :: .inl (a : Nat) :: .inl 1 :: (PySem.W.keyToksAll (r.map rowD) ++ [.inl 0])) (.inl 1 :: .inl (c : Nat) :: .inl 1 :: (PySem.W.keyToksAll (s.map rowD) ++ [.inl 0])) = lt (a, r) (c, s) := by
  rw [lexS, lexN, lexS]
  have e : PyProof.Rows.lexLt itemOrd (PySem.W.keyToksAll (r.map rowD) ++ [.inl 0]) (PySem.W.keyToksAll (s.map rowD) ++ [.inl 0]) = llt r s := by
    by_cases h : r = s
    · subst h
      rw [PySem.W.lex_pre, llt_irr]
      rfl
    · have q := (PySem.W.toksAll_eqv (r.map rowD) (s.map rowD) (alike_rows r s)).2 (by rw [eqv_rows]; exact decide_eq_false h) [.inl 0] [.inl 0]
      rw [q, lex_rows]
  rw [e]
  rfl
theorem lt_T (x y : Rs) : PySem.W.dataLt (rT x) (rT y) = lt x y := lex_cr x.1 y.1 x.2 y.2
theorem lt_L (x y : Rs) : PySem.W.dataLt (rL x) (rL y) = lt x y := lex_cr x.1 y.1 x.2 y.2
theorem alike_T (x y : Rs) : PySem.W.alike (rT x) (rT y) = true := by
  show PySem.W.alikeAll [.int (x.1 : Nat), .tuple (x.2.map rowD)] [.int (y.1 : Nat), .tuple (y.2.map rowD)] = true
  rw [PySem.W.alikeAll, PySem.W.alike, PySem.W.alikeAll, PySem.W.alike, alike_rows, PySem.W.alikeAll]; rfl
theorem alike_L (x y : Rs) : PySem.W.alike (rL x) (rL y) = true := by
  show PySem.W.alikeAll [.int (x.1 : Nat), .list (x.2.map rowD)] [.int (y.1 : Nat), .list (y.2.map rowD)] = true
  rw [PySem.W.alikeAll, PySem.W.alike, PySem.W.alikeAll, PySem.W.alike, alike_rows, PySem.W.alikeAll]; rfl
theorem sh_row (p : Nat × Nat) : Sh 1 (rowD p) := Sh.tuple fun y hy => by
  simp only [List.mem_cons, List.not_mem_nil, or_false] at hy
  rcases hy with rfl | rfl <;> exact Sh.int
theorem sh_T (x : Rs) : Sh 3 (rT x) := Sh.tuple fun y hy => by
  simp only [List.mem_cons, List.not_mem_nil, or_false] at hy
  rcases hy with rfl | rfl
  · exact Sh.int
  · exact Sh.tuple fun z hz => by
      obtain ⟨p, _, rfl⟩ := List.mem_map.mp hz
      exact sh_row p
theorem sh_L (x : Rs) : Sh 3 (rL x) := Sh.tuple fun y hy => by
  simp only [List.mem_cons, List.not_mem_nil, or_false] at hy
  rcases hy with rfl | rfl
  · exact Sh.int
  · exact Sh.list fun z hz => by
      obtain ⟨p, _, rfl⟩ := List.mem_map.mp hz
      exact sh_row p
theorem maxOk_of {ds : List PyData} (h1 : ∀ d ∈ ds, ∀ e ∈ ds, PySem.W.alike d e = true) (h2 : ∀ d ∈ ds, nnone d = true) (h3 : ∀ d ∈ ds, Sh 3 d) : maxOk ds = true := by
  unfold maxOk
  have a1 : (ds.all fun d => ds.all fun e => PySem.W.alike d e) = true := List.all_eq_true.mpr fun d hd => List.all_eq_true.mpr fun e he => h1 d hd e he
  have a2 : ds.all nnone = true := List.all_eq_true.mpr h2
  have a3 : decide (PyData.depthAll ds ≤ 60) = true := decide_eq_true (Nat.le_trans (shAll h3).2 (by decide))
  have a4 : ds.all PyData.canLay0 = true := List.all_eq_true.mpr fun d hd => (h3 d hd).c
  rw [a1, a2, a3, a4]; rfl
theorem min_T (x y : Rs) : min2TD [rT x, rT y] = some (rT (mn x y)) := by
  have ok : maxOk [rT x, rT y] = true := maxOk_of (fun d hd e he => by
    simp only [List.mem_cons, List.not_mem_nil, or_false] at hd he
    rcases hd with rfl | rfl <;> rcases he with rfl | rfl <;> exact alike_T _ _) (fun d hd => by
    simp only [List.mem_cons, List.not_mem_nil, or_false] at hd
    rcases hd with rfl | rfl <;> rfl) (fun d hd => by
    simp only [List.mem_cons, List.not_mem_nil, or_false] at hd
    rcases hd with rfl | rfl <;> exact sh_T _)
  show (if maxOk [rT x, rT y] = true then some (if PySem.W.dataLt (rT y) (rT x) = true then rT y else rT x) else none) = _
  rw [if_pos ok, lt_T]
  unfold mn
  split <;> rfl
theorem min_L (x y : Rs) : min2TD [rL x, rL y] = some (rL (mn x y)) := by
  have ok : maxOk [rL x, rL y] = true := maxOk_of (fun d hd e he => by
    simp only [List.mem_cons, List.not_mem_nil, or_false] at hd he
    rcases hd with rfl | rfl <;> rcases he with rfl | rfl <;> exact alike_L _ _) (fun d hd => by
    simp only [List.mem_cons, List.not_mem_nil, or_false] at hd
    rcases hd with rfl | rfl <;> rfl) (fun d hd => by
    simp only [List.mem_cons, List.not_mem_nil, or_false] at hd
    rcases hd with rfl | rfl <;> exact sh_L _)
  show (if maxOk [rL x, rL y] = true then some (if PySem.W.dataLt (rL y) (rL x) = true then rL y else rL x) else none) = _
  rw [if_pos ok, lt_L]
  unfold mn
  split <;> rfl
theorem min_Ls (x : Rs) (xs : List Rs) : minTD [.list ((x :: xs).map rL)] = some (rL (xs.foldl mn x)) := by
  have ok : maxOk ((x :: xs).map rL) = true := maxOk_of (fun d hd e he => by
    obtain ⟨a, _, rfl⟩ := List.mem_map.mp hd
    obtain ⟨b, _, rfl⟩ := List.mem_map.mp he
    exact alike_L _ _) (fun d hd => by
    obtain ⟨a, _, rfl⟩ := List.mem_map.mp hd
    rfl) (fun d hd => by
    obtain ⟨a, _, rfl⟩ := List.mem_map.mp hd
    exact sh_L _)
  show (if maxOk (rL x :: xs.map rL) = true then some (PySem.W.minD (rL x) (xs.map rL)) else none) = _
  rw [if_pos (show maxOk (rL x :: xs.map rL) = true from ok)]
  congr 1
  unfold PySem.W.minD
  rw [List.foldl_map]
  clear ok
  induction xs generalizing x with
  | nil => rfl
  | cons y xs ih =>
    rw [List.foldl_cons, List.foldl_cons, ← ih]
    congr 1
    rw [lt_L]
    unfold mn
    split <;> rfl
section
variable {i : Nat} {ρ : Rho} {m : Md} {D : List (NestedKey × PyData)} {fk fe fx : M Rv} {kd d u : PyData} {k : NestedKey}
theorem n_pl (h : ρ[i]? = some (.own m (.dn D)) ∨ ρ[i]? = some (.own m (.sn D))) : pVar i ρ = some (.ok (i, []) ρ) := by
  rcases h with h | h <;> exact p_own h
theorem n_tr (h : ρ[i]? = some (.own m (.dn D)) ∨ ρ[i]? = some (.own m (.sn D))) (hk : nkT kd = some k) : ∃ t, treeAt ρ (i, []) = some t ∧ dictN t kd = some (lookP D k) ∧ isDn (some t) = true := by
  rcases h with h | h
  · refine ⟨_, t_own h, ?_, rfl⟩
    unfold dictN
    rw [hk]
  · refine ⟨_, t_own h, ?_, rfl⟩
    unfold dictN
    rw [hk]
theorem r_nin {ng : Bool} (h : ρ[i]? = some (.own m (.dn D)) ∨ ρ[i]? = some (.own m (.sn D))) (hf : fk ρ = some (.ok (.d kd) ρ)) (hk : nkT kd = some k) : cNIn ng fk (pVar i) ρ = some (.ok (if ng then !(lookP D k).isSome else (lookP D k).isSome) ρ) := by
  obtain ⟨t, h1, h2, _⟩ := n_tr h hk
  unfold cNIn
  rw [bnd_ok hf, bnd_ok (n_pl h)]
  unfold nIn1
  rw [h1]
  simp only
  rw [h2]
theorem r_nget (h : ρ[i]? = some (.own m (.dn D)) ∨ ρ[i]? = some (.own m (.sn D))) (hf : fk ρ = some (.ok (.d kd) ρ)) (hk : nkT kd = some k) (hl : lookP D k = some d) : cNGet [] (pVar i) fk ρ = some (.ok (.d d) ρ) := by
  obtain ⟨t, h1, h2, _⟩ := n_tr h hk
  unfold cNGet
  rw [bnd_ok (n_pl h), bnd_ok hf]
  unfold nGet1
  rw [h1]
  simp only [List.contains_nil, Bool.false_eq_true, if_false]
  rw [h2, hl]
theorem r_nget2 (h : ρ[i]? = some (.own m (.dn D)) ∨ ρ[i]? = some (.own m (.sn D))) (hf : fk ρ = some (.ok (.d kd) ρ)) (hx : fx ρ = some (.ok (.d u) ρ)) (hk : nkT kd = some k) : cNGet2 [] (pVar i) fk fx ρ = some (.ok (.d ((lookP D k).getD u)) ρ) := by
  obtain ⟨t, h1, h2, h3⟩ := n_tr h hk
  unfold cNGet2
  rw [bnd_ok (n_pl h), h1, if_pos h3, bnd_ok hf, bnd_ok hx]
  unfold nGet2
  rw [h1]
  simp only [List.contains_nil, Bool.false_eq_true, if_false]
  rw [h2]
theorem r_nput (h : ρ[i]? = some (.own m (.dn D))) (hm : m = .free ∨ m = .pin) (he : fe ρ = some (.ok (.d d) ρ)) (hf : fk ρ = some (.ok (.d kd) ρ)) (hk : nkT kd = some k) (hs : D.length + 1 ≤ 16777216) : sNPut [] fe (pVar i) fk ρ = some (.nx (ρ.set i (.own m (.dn (putP D k d))))) := by
  unfold sNPut
  rw [sE_ok he]
  show sE (pVar i) (fun r => sE fk (nPut1 [] d r)) ρ = _
  rw [sE_ok (p_own h), sE_ok hf]
  unfold nPut1
  have mo : modeOk ρ i = true := by
    unfold modeOk
    rw [h]
    rcases hm with rfl | rfl <;> rfl
  have c : (([] : List Nat).contains i || !modeOk ρ i) = false := by rw [mo]; rfl
  rw [c, if_neg Bool.false_ne_true, t_own h]
  simp only
  rw [hk]
  simp only
  rw [if_pos (small_iff.mpr (by rw [sizeLine_eq]; exact hs))]
  have e : VL.putAt ρ (i, []) (.dn (putP D k d)) = ρ.set i (.own m (.dn (putP D k d))) := by
    unfold VL.putAt
    simp only [h]
    rfl
  rw [e]
end
end K09

end

section
set_option Elab.async false
set_option linter.all false
set_option maxRecDepth 100000
set_option maxHeartbeats 2000000
namespace K09
open PySem PySem.Spec PyProof.Rows L2 VL SM SN SP SH
noncomputable def GoodD (C : Nat → Nat → Nat) (m : Nat) (D : List (NestedKey × PyData)) : Prop := ∀ i U d, i ≤ m → lookP D (kK i U) = some d → d = rT (fit C (m - i) i U)
structure CdOk (C : Nat → Nat → Nat) (m n : Nat) (cd : PyData) : Prop where
  len : lenD [cd] = some (.int (m : Nat))
  at_ : ∀ i p, i < m → p < n → ∃ row, subD cd (.int (i : Nat)) = some row ∧ subD row (.int (p : Nat)) = some (.int (C i p : Nat))
noncomputable def Wn (n : Nat) : Nat → Nat
  | 0 => 0
  | k + 1 => (n + 1) * Wn n k + 1
noncomputable def vk (v : Sl) : Prop := frB (some v) = true ∧ unown v = true
theorem vk_val {d : PyData} : vk (.val d) := ⟨rfl, rfl⟩
theorem vk_no : vk .no := ⟨rfl, rfl⟩
theorem fit_len (C : Nat → Nat → Nat) {k i : Nat} {left : List Nat} (nd : left.Nodup) : (fit C k i left).2.length ≤ k := by
  obtain ⟨ch, h1, h2, h3⟩ := (fit_min C k i left nd).1
  rw [h3, ← h1]
  show (rowsOf i ch).length ≤ _
  rw [rows_len C]
  exact List.length_filterMap_le _ _
theorem ne_nat (a b : Nat) : neD (.int (a : Nat)) (.int (b : Nat)) = some (!decide (a = b)) := by
  show some (!PyData.eqv (.int (a : Nat)) (.int (b : Nat))) = _
  rw [PyData.eqv]
  congr 2
  rw [Bool.eq_iff_iff]
  simp
  try omega
theorem eq_nat (a b : Nat) : eqD (.int (a : Nat)) (.int (b : Nat)) = some (decide (a = b)) := by
  show some (PyData.eqv (.int (a : Nat)) (.int (b : Nat))) = _
  rw [PyData.eqv]
  congr 1
  rw [Bool.eq_iff_iff]
  simp
  try omega
theorem len_u (U : List Nat) : lenD [uD U] = some (.int (U.length : Nat)) := by
  show some (PyData.int ((uL U).length : Nat)) = _
  unfold uL
  rw [List.length_map]
theorem cv_dn {i : Nat} {ρ : Rho} {md : Md} {D : List (NestedKey × PyData)} : VR.cvS i ρ (some (.own md (.dn D))) = some (.ok (.o i) ρ) := rfl
section
variable {C : Nat → Nat → Nat} {m n i : Nat} {cd : PyData} {left : List Nat} {D D' : List (NestedKey × PyData)} {v4 v5 v6 v7 v8 v9 : Sl} {F : Fn}
noncomputable abbrev e10 (cd : PyData) (i : Nat) (left : List Nat) (D : List (NestedKey × PyData)) (v4 v5 v6 v7 v8 v9 : Sl) : Rho := [.val cd, .val (.int (i : Nat)), .val (uD left), .own .pin (.dn D), v4, v5, v6, v7, v8, v9]
theorem call_a {r : PyData} (hF : F [.val cd, .val (.int ((i + 1 : Nat) : Int)), .val (uD left), .own .pin (.dn D)] = some (.ret (.dat r), [.val cd, .val (.int ((i + 1 : Nat) : Int)), .val (uD left), .own .pin (.dn D')])) :
    cFrz (nCall [0, 2, 3] 4 F (aCons (cVar 0) (aCons (cBin addD (cVar 1) (cD (.int 1))) (aCons (cVar 2) (aCons (cVar 3) aNil))))) (e10 cd i left D v4 v5 v6 v7 v8 v9) = some (.ok (.d r) (e10 cd i left D' v4 v5 v6 v7 v8 v9)) := by
  have hF' : F [.val cd, .val (.int ((i : Nat) + 1)), .val (uD left), .own .pin (.dn D)] = some (.ret (.dat r), [.val cd, .val (.int ((i + 1 : Nat) : Int)), .val (uD left), .own .pin (.dn D')]) := hF
  simp! only [setSl, List.replicate, pinS, Md.unb, VR.ap_fld1, VR.ap_pFld, VR.ap_pKey, VR.ap_keyT1, hF', cv_dn]
theorem call_b {U : List Nat} {r : PyData} (hF : F [.val cd, .val (.int ((i + 1 : Nat) : Int)), .val (uD U), .own .pin (.dn D)] = some (.ret (.dat r), [.val cd, .val (.int ((i + 1 : Nat) : Int)), .val (uD U), .own .pin (.dn D')])) :
    cFrz (nCall [0, 8, 3] 4 F (aCons (cVar 0) (aCons (cBin addD (cVar 1) (cD (.int 1))) (aCons (cVar 8) (aCons (cVar 3) aNil))))) (e10 cd i left D v4 v5 v6 v7 (.val (uD U)) v9) = some (.ok (.d r) (e10 cd i left D' v4 v5 v6 v7 (.val (uD U)) v9)) := by
  have hF' : F [.val cd, .val (.int ((i : Nat) + 1)), .val (uD U), .own .pin (.dn D)] = some (.ret (.dat r), [.val cd, .val (.int ((i + 1 : Nat) : Int)), .val (uD U), .own .pin (.dn D')]) := hF
  simp! only [setSl, List.replicate, pinS, Md.unb, VR.ap_fld1, VR.ap_pFld, VR.ap_pKey, VR.ap_keyT1, hF', cv_dn]
theorem comp_r {p : Nat} (h9 : vk v9) (hl : left.length ≤ 100000) : cFrz (nComp (iSeq (cVar 2)) [9] (gN 9) (cCmp neD (cVar 9) (cVar 7)) (cVar 9)) (e10 cd i left D v4 v5 v6 (.val (.int (p : Nat))) v8 v9) =
    some (.ok (.d (.list (uL (rest left p)))) (e10 cd i left D v4 v5 v6 (.val (.int (p : Nat))) v8 v9)) := by
  have it : iSeq (cVar 2) (e10 cd i left D v4 v5 v6 (.val (.int (p : Nat))) v8 v9) = some (.ok (left.map fun q : Nat => PyData.int (q : Nat)) (e10 cd i left D v4 v5 v6 (.val (.int (p : Nat))) v8 v9)) := rfl
  exact r_compT (D := fun q : Nat => PyData.int (q : Nat)) (fun q => !decide (q = p)) (fun q : Nat => PyData.int (q : Nat)) it (by omega) (s := v9) rfl h9.2 (fun q hq => r_cmp (r_var rfl) (r_var rfl) (ne_nat q p)) (fun q hq _ => r_var rfl)
theorem put_8 {p : Nat} (h8 : vk v8) (h9 : vk v9) (hl : left.length ≤ 100000) : sSet 8 (cCall tupleD (aCons (cFrz (nComp (iSeq (cVar 2)) [9] (gN 9) (cCmp neD (cVar 9) (cVar 7)) (cVar 9))) aNil)) (e10 cd i left D v4 v5 v6 (.val (.int (p : Nat))) v8 v9) =
    some (.nx (e10 cd i left D v4 v5 v6 (.val (.int (p : Nat))) (.val (uD (rest left p))) v9)) := r_set (r_call1 (comp_r h9 hl) rfl) h8.1
theorem asg45 {r : Rs} (h4 : vk v4) (h5 : vk v5) {f : M Rv} {ρ : Rho} (hf : f ρ = some (.ok (.d (rT r)) (e10 cd i left D v4 v5 v6 v7 v8 v9))) :
    sAsg (VL.gT 2 (gsC (gN 4) (gsC (gN 5) gsN))) f ρ = some (.nx (e10 cd i left D (.val (.int (r.1 : Nat))) (.val (.tuple (r.2.map rowD))) v6 v7 v8 v9)) := r_asg hf (r_gT2 h4.1 h5.1)
theorem put_6 {b r : Rs} {p : Nat} (hC : CdOk C m n cd) (hi : i < m) (hp : p < n) (hr : r.2.length ≤ 100000) :
    sSet 6 (cCall min2TD (aCons (cVar 6) (aCons (cTup (aCons (cBin addD (cVar 4) (cBin subD (cBin subD (cVar 0) (cVar 1)) (cVar 7))) (aCons (cBin addD (cTup (aCons (cTup (aCons (cVar 1) (aCons (cVar 7) aNil))) aNil)) (cVar 5)) aNil))) aNil)))
      (e10 cd i left D (.val (.int (r.1 : Nat))) (.val (.tuple (r.2.map rowD))) (.val (rT b)) (.val (.int (p : Nat))) v8 v9) =
    some (.nx (e10 cd i left D (.val (.int (r.1 : Nat))) (.val (.tuple (r.2.map rowD))) (.val (rT (mn b (r.1 + C i p, (i, p) :: r.2)))) (.val (.int (p : Nat))) v8 v9)) := by
  obtain ⟨row, h1, h2⟩ := hC.at_ i p hi hp
  have ad : addD (.tuple [rowD (i, p)]) (.tuple (r.2.map rowD)) = some (.tuple (((i, p) :: r.2).map rowD)) := by
    show (if small ([rowD (i, p)].length + (r.2.map rowD).length) = true then some (PyData.tuple ([rowD (i, p)] ++ r.2.map rowD)) else none) = _
    rw [if_pos (small_iff.mpr (by rw [List.length_map, sizeLine_eq, List.length_singleton]; omega))]
    rfl
  have mi := min_T b (r.1 + C i p, (i, p) :: r.2)
  have sb : cBin subD (cBin subD (cVar 0) (cVar 1)) (cVar 7) (e10 cd i left D (.val (.int (r.1 : Nat))) (.val (.tuple (r.2.map rowD))) (.val (rT b)) (.val (.int (p : Nat))) v8 v9) = some (.ok (.d (.int (C i p : Nat))) (e10 cd i left D (.val (.int (r.1 : Nat))) (.val (.tuple (r.2.map rowD))) (.val (rT b)) (.val (.int (p : Nat))) v8 v9)) :=
    r_bin (r_bin (r_var rfl) (r_var rfl) h1) (r_var rfl) h2
  have a1 : cBin addD (cVar 4) (cBin subD (cBin subD (cVar 0) (cVar 1)) (cVar 7)) (e10 cd i left D (.val (.int (r.1 : Nat))) (.val (.tuple (r.2.map rowD))) (.val (rT b)) (.val (.int (p : Nat))) v8 v9) = some (.ok (.d (.int ((r.1 + C i p : Nat) : Int))) (e10 cd i left D (.val (.int (r.1 : Nat))) (.val (.tuple (r.2.map rowD))) (.val (rT b)) (.val (.int (p : Nat))) v8 v9)) := r_bin (r_var rfl) sb rfl
  have a2 : cBin addD (cTup (aCons (cTup (aCons (cVar 1) (aCons (cVar 7) aNil))) aNil)) (cVar 5) (e10 cd i left D (.val (.int (r.1 : Nat))) (.val (.tuple (r.2.map rowD))) (.val (rT b)) (.val (.int (p : Nat))) v8 v9) = some (.ok (.d (.tuple (((i, p) :: r.2).map rowD))) (e10 cd i left D (.val (.int (r.1 : Nat))) (.val (.tuple (r.2.map rowD))) (.val (rT b)) (.val (.int (p : Nat))) v8 v9)) := by
    refine r_bin (d := .tuple [rowD (i, p)]) ?_ (r_var rfl) ad
    rfl
  have mi' : min2TD [rT b, .tuple [.int ((r.1 + C i p : Nat) : Int), .tuple (rowD (i, p) :: r.2.map rowD)]] = some (rT (mn b (r.1 + C i p, (i, p) :: r.2))) := mi
  have mm : cCall min2TD (aCons (cVar 6) (aCons (cTup (aCons (cBin addD (cVar 4) (cBin subD (cBin subD (cVar 0) (cVar 1)) (cVar 7))) (aCons (cBin addD (cTup (aCons (cTup (aCons (cVar 1) (aCons (cVar 7) aNil))) aNil)) (cVar 5)) aNil))) aNil)) (e10 cd i left D (.val (.int (r.1 : Nat))) (.val (.tuple (r.2.map rowD))) (.val (rT b)) (.val (.int (p : Nat))) v8 v9) = some (.ok (.d (rT (mn b (r.1 + C i p, (i, p) :: r.2)))) (e10 cd i left D (.val (.int (r.1 : Nat))) (.val (.tuple (r.2.map rowD))) (.val (rT b)) (.val (.int (p : Nat))) v8 v9)) := by
    generalize cBin addD (cVar 4) (cBin subD (cBin subD (cVar 0) (cVar 1)) (cVar 7)) = g1 at a1 ⊢
    generalize cBin addD (cTup (aCons (cTup (aCons (cVar 1) (aCons (cVar 7) aNil))) aNil)) (cVar 5) = g2 at a2 ⊢
    simp! only [setSl, List.replicate, pinS, Md.unb, VR.ap_fld1, VR.ap_pFld, VR.ap_pKey, VR.ap_keyT1, a1, a2, mi']
  exact r_set mm rfl
noncomputable def Runs (C : Nat → Nat → Nat) (m n k i : Nat) (cd : PyData) (F : Fn) : Prop := ∀ U D, U.Nodup → (∀ q ∈ U, q < n) → U.length ≤ n → GoodD C m D → D.length + Wn n k ≤ 10000000 →
  ∃ D', GoodD C m D' ∧ D'.length ≤ D.length + Wn n k ∧ F [.val cd, .val (.int (i : Nat)), .val (uD U), .own .pin (.dn D)] = some (.ret (.dat (rT (fit C k i U))), [.val cd, .val (.int (i : Nat)), .val (uD U), .own .pin (.dn D')])
theorem turn_p {k p : Nat} {b : Rs} (hF : Runs C m n k (i + 1) cd F) (hC : CdOk C m n cd) (hi : i < m) (hn : n ≤ 1000) (hk : k ≤ 1000) (nd : left.Nodup) (hl : ∀ q ∈ left, q < n) (hln : left.length ≤ n) (hp : p ∈ left) (G : GoodD C m D) (hs : D.length + Wn n k ≤ 10000000) (h4 : vk v4) (h5 : vk v5) (h8 : vk v8) (h9 : vk v9) :
    ∃ D' w4 w5 w8, vk w4 ∧ vk w5 ∧ vk w8 ∧ GoodD C m D' ∧ D'.length ≤ D.length + Wn n k ∧ b_fit_from_0 F (e10 cd i left D v4 v5 (.val (rT b)) (.val (.int (p : Nat))) v8 v9) =
      some (.nx (e10 cd i left D' w4 w5 (.val (rT (mn b ((fit C k (i + 1) (rest left p)).1 + C i p, (i, p) :: (fit C k (i + 1) (rest left p)).2)))) (.val (.int (p : Nat))) w8 v9)) := by
  have lr : (rest left p).length ≤ left.length := List.length_filter_le _ _
  obtain ⟨D', G', l', e⟩ := hF (rest left p) D (rest_nd nd) (fun q hq => hl q (rest_mem.mp hq).1) (by omega) G hs
  refine ⟨D', .val (.int ((fit C k (i + 1) (rest left p)).1 : Nat)), .val (.tuple ((fit C k (i + 1) (rest left p)).2.map rowD)), .val (uD (rest left p)), vk_val, vk_val, vk_val, G', l', ?_⟩
  show sSeq _ (sSeq _ _) _ = _
  rw [seq_nx (put_8 h8 h9 (by omega)), seq_nx (asg45 h4 h5 (call_b e)), put_6 hC hi (hl p hp) (Nat.le_trans (fit_len C (rest_nd nd)) (by omega))]
theorem loop_p {k : Nat} (hF : Runs C m n k (i + 1) cd F) (hC : CdOk C m n cd) (hi : i < m) (hn : n ≤ 1000) (hk : k ≤ 1000) (nd : left.Nodup) (hl : ∀ q ∈ left, q < n) (hln : left.length ≤ n) : ∀ (l : List Nat) (b : Rs) (D : List (NestedKey × PyData)) (v4 v5 v7 v8 : Sl), (∀ q ∈ l, q ∈ left) → GoodD C m D → D.length + l.length * Wn n k ≤ 10000000 → vk v4 → vk v5 → vk v7 → vk v8 → vk v9 →
    ∃ D' w4 w5 w7 w8, GoodD C m D' ∧ D'.length ≤ D.length + l.length * Wn n k ∧ loopF (gN 7) (b_fit_from_0 F) (uL l) (e10 cd i left D v4 v5 (.val (rT b)) v7 v8 v9) =
      some (.nx (e10 cd i left D' w4 w5 (.val (rT (l.foldl (fun b p => mn b ((fit C k (i + 1) (rest left p)).1 + C i p, (i, p) :: (fit C k (i + 1) (rest left p)).2)) b))) w7 w8 v9))
  | [], b, D, v4, v5, v7, v8, _, G, _, h4, h5, h7, h8, _ => ⟨D, v4, v5, v7, v8, G, by omega, rfl⟩
  | p :: l, b, D, v4, v5, v7, v8, hs, G, hb, h4, h5, h7, h8, h9 => by
    rw [List.length_cons, Nat.succ_mul] at hb
    obtain ⟨D1, w4, w5, w8, g4, g5, g8, G1, l1, e1⟩ := turn_p (b := b) (v4 := v4) (v5 := v5) (v8 := v8) (v9 := v9) hF hC hi hn hk nd hl hln (hs p List.mem_cons_self) G (by omega) h4 h5 h8 h9
    obtain ⟨D2, x4, x5, x7, x8, G2, l2, e2⟩ := loop_p hF hC hi hn hk nd hl hln l _ D1 w4 w5 (.val (.int (p : Nat))) w8 (fun q hq => hs q (List.mem_cons_of_mem _ hq)) G1 (by omega) g4 g5 vk_val g8 h9
    refine ⟨D2, x4, x5, x7, x8, G2, by rw [List.length_cons, Nat.succ_mul]; omega, ?_⟩
    have g : gN 7 (.int (p : Nat)) (e10 cd i left D v4 v5 (.val (rT b)) v7 v8 v9) = some (e10 cd i left D v4 v5 (.val (rT b)) (.val (.int (p : Nat))) v8 v9) := setSl_f h7.1
    show loopF (gN 7) (b_fit_from_0 F) (.int (p : Nat) :: uL l) _ = _
    rw [loop_cons g e1]
    exact e2
theorem fit_run (hC : CdOk C m n cd) (hn : n ≤ 1000) (hm : m ≤ 1000) : ∀ (k f i : Nat), i + k = m → k < f → Runs C m n k i cd (F_fit_from f)
  | k, 0, i, _, h => absurd h (Nat.not_lt_zero _)
  | 0, f + 1, i, hik, _ => fun U D nd hU hl G hs => by
    refine ⟨D, G, Nat.le_add_right _ _, ?_⟩
    have hi : i = m := by omega
    show runF 10 (g_fit_from (F_fit_from f)) _ = _
    refine (run_rt (t := .dat (rT (2 * U.length, []))) (ρ' := e10 cd i U D .no .no .no .no .no .no) ?_).trans rfl
    show sSeq (sIf _ _ _) _ (e10 cd i U D .no .no .no .no .no .no) = _
    have c : cCmp eqD (cVar 1) (cCall lenD (aCons (cVar 0) aNil)) (e10 cd i U D .no .no .no .no .no .no) = some (.ok true (e10 cd i U D .no .no .no .no .no .no)) := r_cmp (r_var rfl) (r_call1 (r_var rfl) hC.len) (by rw [eq_nat, decide_eq_true hi])
    have ml : mulD (.int 2) (.int (U.length : Nat)) = some (.int ((2 * U.length : Nat) : Int)) := by
      show (if (2 : Int).natAbs < lim ∧ ((U.length : Nat) : Int).natAbs < lim then some (PyData.int (2 * (U.length : Nat))) else none) = _
      rw [if_pos ⟨by decide, Nat.lt_of_le_of_lt (show ((U.length : Nat) : Int).natAbs ≤ 1000 by omega) (by decide)⟩]
      rfl
    have a1 : cBin mulD (cD (.int (2))) (cCall lenD (aCons (cVar 2) aNil)) (e10 cd i U D .no .no .no .no .no .no) = some (.ok (.d (.int ((2 * U.length : Nat) : Int))) (e10 cd i U D .no .no .no .no .no .no)) := r_bin rfl (r_call1 (r_var rfl) (len_u U)) ml
    have q : sIf (cCmp eqD (cVar 1) (cCall lenD (aCons (cVar 0) aNil))) (sRet (nDat (cTup (aCons (cBin mulD (cD (.int (2))) (cCall lenD (aCons (cVar 2) aNil))) (aCons (cTup aNil) aNil))))) sNil (e10 cd i U D .no .no .no .no .no .no) = some (.rt (.dat (rT (2 * U.length, []))) (e10 cd i U D .no .no .no .no .no .no)) := by
      rw [r_ifT c]
      generalize cBin mulD (cD (.int (2))) (cCall lenD (aCons (cVar 2) aNil)) = g1 at a1 ⊢
      simp! only [setSl, List.replicate, pinS, Md.unb, VR.ap_fld1, VR.ap_pFld, VR.ap_pKey, VR.ap_keyT1, a1]
      rfl
    unfold sSeq
    rw [q]
  | k + 1, f + 1, i, hik, hkf => fun U D nd hU hl G hs => by
    have ih := fit_run hC hn hm k f (i + 1) (by omega) (by omega)
    have hi : i < m := by omega
    have c : ∀ D : List (NestedKey × PyData), cCmp eqD (cVar 1) (cCall lenD (aCons (cVar 0) aNil)) (e10 cd i U D .no .no .no .no .no .no) = some (.ok false (e10 cd i U D .no .no .no .no .no .no)) := fun D => r_cmp (r_var rfl) (r_call1 (r_var rfl) hC.len) (by rw [eq_nat, decide_eq_false (by omega)])
    have kd : ∀ {w4 w5 w6 w7 w8 : Sl} {D : List (NestedKey × PyData)}, cTup (aCons (cVar 1) (aCons (cVar 2) aNil)) (e10 cd i U D w4 w5 w6 w7 w8 .no) = some (.ok (.d (.tuple [.int (i : Nat), uD U])) (e10 cd i U D w4 w5 w6 w7 w8 .no)) := rfl
    have tell : ∀ {w4 w5 w6 w7 w8 : Sl} {D : List (NestedKey × PyData)}, GoodD C m D → (lookP D (kK i U)).isSome = true → sRet (nDat (cNGet [] (pVar 3) (cTup (aCons (cVar 1) (aCons (cVar 2) aNil))))) (e10 cd i U D w4 w5 w6 w7 w8 .no) = some (.rt (.dat (rT (fit C (k + 1) i U))) (e10 cd i U D w4 w5 w6 w7 w8 .no)) := by
      intro w4 w5 w6 w7 w8 D G h
      obtain ⟨d, hd⟩ := Option.isSome_iff_exists.mp h
      have e := G i U d (by omega) hd
      rw [show m - i = k + 1 from by omega] at e
      have g : cNGet [] (pVar 3) (cTup (aCons (cVar 1) (aCons (cVar 2) aNil))) (e10 cd i U D w4 w5 w6 w7 w8 .no) = some (.ok (.d d) (e10 cd i U D w4 w5 w6 w7 w8 .no)) := r_nget (m := .pin) (.inl rfl) kd (nk_k i U) hd
      rw [← e]
      generalize cNGet [] (pVar 3) (cTup (aCons (cVar 1) (aCons (cVar 2) aNil))) = g1 at g ⊢
      simp! only [setSl, List.replicate, pinS, Md.unb, VR.ap_fld1, VR.ap_pFld, VR.ap_pKey, VR.ap_keyT1, g]
    have nin : cNIn true (cTup (aCons (cVar 1) (aCons (cVar 2) aNil))) (pVar 3) (e10 cd i U D .no .no .no .no .no .no) = some (.ok (!(lookP D (kK i U)).isSome) (e10 cd i U D .no .no .no .no .no .no)) := r_nin (ng := true) (m := .pin) (.inl rfl) kd (nk_k i U)
    have hs' : D.length + ((n + 1) * Wn n k + 1) ≤ 10000000 := hs
    rw [Nat.succ_mul] at hs'
    cases hlk : (lookP D (kK i U)).isSome with
    | true =>
      refine ⟨D, G, Nat.le_add_right _ _, ?_⟩
      show runF 10 (g_fit_from (F_fit_from f)) _ = _
      refine (run_rt (t := .dat (rT (fit C (k + 1) i U))) (ρ' := e10 cd i U D .no .no .no .no .no .no) ?_).trans rfl
      rw [hlk] at nin
      have s1 : sIf (cCmp eqD (cVar 1) (cCall lenD (aCons (cVar 0) aNil))) (sRet (nDat (cTup (aCons (cBin mulD (cD (.int (2))) (cCall lenD (aCons (cVar 2) aNil))) (aCons (cTup aNil) aNil))))) sNil (e10 cd i U D .no .no .no .no .no .no) = some (.nx (e10 cd i U D .no .no .no .no .no .no)) := r_ifF (c D)
      show sSeq (sIf _ _ _) (sSeq (sIf _ _ sNil) _) (e10 cd i U D .no .no .no .no .no .no) = _
      rw [seq_nx s1, seq_nx (r_ifF nin)]
      exact tell G hlk
    | false =>
      rw [hlk] at nin
      obtain ⟨D1, G1, l1, e1⟩ := ih U D nd hU hl G (by omega)
      have hUn : U.length * Wn n k ≤ n * Wn n k := Nat.mul_le_mul_right _ hl
      obtain ⟨D2, w4, w5, w7, w8, G2, l2, e2⟩ := loop_p (v9 := .no) ih hC hi hn (by omega) nd hU hl U ((fit C k (i + 1) U).1 + 2, (fit C k (i + 1) U).2) D1 (.val (.int ((fit C k (i + 1) U).1 : Nat))) (.val (.tuple ((fit C k (i + 1) U).2.map rowD))) .no .no (fun _ h => h) G1 (by omega) vk_val vk_val vk_no vk_no vk_no
      have e2' : loopF (gN 7) (b_fit_from_0 (F_fit_from f)) (uL U) (e10 cd i U D1 (.val (.int ((fit C k (i + 1) U).1 : Nat))) (.val (.tuple ((fit C k (i + 1) U).2.map rowD))) (.val (rT ((fit C k (i + 1) U).1 + 2, (fit C k (i + 1) U).2))) .no .no .no) = some (.nx (e10 cd i U D2 w4 w5 (.val (rT (fit C (k + 1) i U))) w7 w8 .no)) := e2
      have lk : ∀ j V, lookP (putP D2 (kK i U) (rT (fit C (k + 1) i U))) (kK j V) = if kK j V = kK i U then some (rT (fit C (k + 1) i U)) else lookP D2 (kK j V) := fun j V => lookP_put _ _ _ _
      have G3 : GoodD C m (putP D2 (kK i U) (rT (fit C (k + 1) i U))) := by
        intro j V d hj hd
        rw [lk] at hd
        split at hd
        · rename_i z
          obtain ⟨rfl, rfl⟩ := kK_inj.mp z
          cases hd
          rw [show m - j = k + 1 from by omega]
        · exact G2 j V d hj hd
      have l3 := putP_len D2 (kK i U) (rT (fit C (k + 1) i U))
      refine ⟨putP D2 (kK i U) (rT (fit C (k + 1) i U)), G3, ?_, ?_⟩
      · show _ ≤ D.length + ((n + 1) * Wn n k + 1)
        rw [Nat.succ_mul]
        omega
      · show runF 10 (g_fit_from (F_fit_from f)) _ = _
        refine (run_rt (t := .dat (rT (fit C (k + 1) i U))) (ρ' := e10 cd i U (putP D2 (kK i U) (rT (fit C (k + 1) i U))) w4 w5 (.val (rT (fit C (k + 1) i U))) w7 w8 .no) ?_).trans rfl
        have s1 : sIf (cCmp eqD (cVar 1) (cCall lenD (aCons (cVar 0) aNil))) (sRet (nDat (cTup (aCons (cBin mulD (cD (.int (2))) (cCall lenD (aCons (cVar 2) aNil))) (aCons (cTup aNil) aNil))))) sNil (e10 cd i U D .no .no .no .no .no .no) = some (.nx (e10 cd i U D .no .no .no .no .no .no)) := r_ifF (c D)
        have b1 : sAsg (VL.gT 2 (gsC (gN 4) (gsC (gN 5) gsN))) (cFrz (nCall [0, 2, 3] 4 (F_fit_from f) (aCons (cVar 0) (aCons (cBin addD (cVar 1) (cD (.int 1))) (aCons (cVar 2) (aCons (cVar 3) aNil)))))) (e10 cd i U D .no .no .no .no .no .no) = some (.nx (e10 cd i U D1 (.val (.int ((fit C k (i + 1) U).1 : Nat))) (.val (.tuple ((fit C k (i + 1) U).2.map rowD))) .no .no .no .no)) := asg45 vk_no vk_no (call_a e1)
        have b2 : sSet 6 (cTup (aCons (cBin addD (cVar 4) (cD (.int (2)))) (aCons (cVar 5) aNil))) (e10 cd i U D1 (.val (.int ((fit C k (i + 1) U).1 : Nat))) (.val (.tuple ((fit C k (i + 1) U).2.map rowD))) .no .no .no .no) = some (.nx (e10 cd i U D1 (.val (.int ((fit C k (i + 1) U).1 : Nat))) (.val (.tuple ((fit C k (i + 1) U).2.map rowD))) (.val (rT ((fit C k (i + 1) U).1 + 2, (fit C k (i + 1) U).2))) .no .no .no)) := by
          have e : cTup (aCons (cBin addD (cVar 4) (cD (.int (2)))) (aCons (cVar 5) aNil)) (e10 cd i U D1 (.val (.int ((fit C k (i + 1) U).1 : Nat))) (.val (.tuple ((fit C k (i + 1) U).2.map rowD))) .no .no .no .no) = some (.ok (.d (rT ((fit C k (i + 1) U).1 + 2, (fit C k (i + 1) U).2))) (e10 cd i U D1 (.val (.int ((fit C k (i + 1) U).1 : Nat))) (.val (.tuple ((fit C k (i + 1) U).2.map rowD))) .no .no .no .no)) := rfl
          exact r_set e rfl
        have it : iSeq (cVar 2) (e10 cd i U D1 (.val (.int ((fit C k (i + 1) U).1 : Nat))) (.val (.tuple ((fit C k (i + 1) U).2.map rowD))) (.val (rT ((fit C k (i + 1) U).1 + 2, (fit C k (i + 1) U).2))) .no .no .no) = some (.ok (uL U) (e10 cd i U D1 (.val (.int ((fit C k (i + 1) U).1 : Nat))) (.val (.tuple ((fit C k (i + 1) U).2.map rowD))) (.val (rT ((fit C k (i + 1) U).1 + 2, (fit C k (i + 1) U).2))) .no .no .no)) := rfl
        have b3 := for_ok (g := gN 7) (b := b_fit_from_0 (F_fit_from f)) it e2'
        have b4 : sNPut [] (cVar 6) (pVar 3) (cTup (aCons (cVar 1) (aCons (cVar 2) aNil))) (e10 cd i U D2 w4 w5 (.val (rT (fit C (k + 1) i U))) w7 w8 .no) = some (.nx (e10 cd i U (putP D2 (kK i U) (rT (fit C (k + 1) i U))) w4 w5 (.val (rT (fit C (k + 1) i U))) w7 w8 .no)) := r_nput (m := .pin) rfl (.inr rfl) (r_var rfl) kd (nk_k i U) (by omega)
        show sSeq (sIf _ _ _) (sSeq (sIf _ _ sNil) _) (e10 cd i U D .no .no .no .no .no .no) = _
        rw [seq_nx s1]
        have s2 : sIf (cNIn true (cTup (aCons (cVar 1) (aCons (cVar 2) aNil))) (pVar 3)) (sSeq (sAsg (VL.gT 2 (gsC (gN 4) (gsC (gN 5) gsN))) (cFrz (nCall [0, 2, 3] 4 (F_fit_from f) (aCons (cVar 0) (aCons (cBin addD (cVar 1) (cD (.int 1))) (aCons (cVar 2) (aCons (cVar 3) aNil)))))))
            (sSeq (sSet 6 (cTup (aCons (cBin addD (cVar 4) (cD (.int (2)))) (aCons (cVar 5) aNil)))) (sSeq (sFor (iSeq (cVar 2)) (gN 7) (b_fit_from_0 (F_fit_from f))) (sNPut [] (cVar 6) (pVar 3) (cTup (aCons (cVar 1) (aCons (cVar 2) aNil))))))) sNil (e10 cd i U D .no .no .no .no .no .no) =
            some (.nx (e10 cd i U (putP D2 (kK i U) (rT (fit C (k + 1) i U))) w4 w5 (.val (rT (fit C (k + 1) i U))) w7 w8 .no)) := by
          rw [r_ifT nin, seq_nx b1, seq_nx b2, seq_nx b3, b4]
        rw [seq_nx s2]
        exact tell G3 (by rw [lk, if_pos rfl]; rfl)
end
end K09

end

section
set_option Elab.async false
set_option linter.all false
set_option maxRecDepth 100000
set_option maxHeartbeats 2000000
namespace SH
open PySem PySem.Spec PyProof.Rows L2 VL SM SP
section
variable {z s : Int} {x y x' : S} {p p' : Past} {md : Md} {n N : Nat} {g : Bg} {rest : Rho} {t u : Tr} {c : Cl}
end
end SH

end

section
set_option Elab.async false
set_option linter.all false
set_option maxRecDepth 100000
set_option maxHeartbeats 1000000
namespace VL
open PySem PySem.Spec PyProof.Rows L2
section
variable {X : Cx} {T1 T2 T3 Ts : List Nat} {W : WV} {k m0 : Nat} {g : Addr} {fd : FuncData} {ps : List Str} {G : Fn} {c m m' : Str} {apos pos : Pos} {o e : Expr} {es : List Expr} {fp1 : M (Nat × List Nat)} {fs : M (List Rv)}
end
end VL

end

section
set_option Elab.async false
set_option linter.all false
set_option maxRecDepth 100000
set_option maxHeartbeats 2000000
namespace SH
open PySem PySem.Spec PyProof.Rows L2 VL SM SP
theorem argSls_d {ρ : Rho} : ∀ {ds : List PyData}, argSls ρ (ds.map .d) = some (ds.map .val)
  | [] => rfl
  | d :: ds => by
    show (match argSl ρ (.d d), argSls ρ (ds.map .d) with
      | some a, some as => some (a :: as)
      | _, _ => none) = _
    rw [argSls_d]
    rfl
theorem posOf_d {j : Nat} : ∀ {ds : List PyData}, posOf (ds.map .d) j = none
  | [] => rfl
  | d :: ds => by
    show (posOf (ds.map .d) j).map (· + 1) = _
    rw [posOf_d]
    rfl
theorem oneEach_d : ∀ {ds : List PyData}, oneEach (ds.map .d) = true
  | [] => rfl
  | d :: ds => oneEach_d (ds := ds)
theorem allIn_d {Ts : List Nat} : ∀ {ds : List PyData}, allIn Ts (ds.map .d) = true
  | [] => rfl
  | d :: ds => allIn_d (ds := ds)
theorem mrg_d : ∀ {ds : List PyData} {os : List Sl}, mrg (ds.map .val) os = ds.map .val
  | [], _ => rfl
  | d :: ds, os => by
    show mrg1 (.val d) os.head? :: mrg (ds.map .val) os.tail = _
    rw [mrg_d]
    rfl
theorem backOk_d : ∀ {ds : List PyData}, backOk (ds.map .val) (ds.map .val) = true
  | [] => rfl
  | d :: ds => backOk_d (ds := ds)
section
variable {ρ : Rho} {j m0 : Nat} {h h' : Tr} {m : Md} {t : Tr} {k : Str} {rest : Rho} {ds : List PyData} {G : Fn} {Ts : List Nat}
end
section
variable {c f cc mm : Str} {ρt : Rho} {fl : List (Str × Tr)} {m0 : Nat} {h' : Tr} {m : Md} {t : Tr} {k : Str} {rest : Rho} {ds : List PyData} {G : Fn} {fs : M (List Rv)}
end
end SH

end

section
set_option Elab.async false
set_option linter.all false
set_option maxRecDepth 100000
set_option maxHeartbeats 2000000
namespace SH
open PySem PySem.Spec PyProof.Rows L2 VL SM SP
theorem callN_m {ρ : Rho} {j m0 : Nat} {h h' : Tr} {m md : Md} {t : Tr} {rest : Rho} {ds : List PyData} {G : Fn} {Ts : List Nat} (hj : ρ[j]? = some (.own md h)) (hl : ds.length + 1 = m0) (hT : Ts.contains j = true) (hG : G (.own md.arg h :: ds.map .val) = some (.ret t, .own m h' :: rest)) : callN Ts m0 G (.o j :: ds.map .d) ρ = some (.ok t (ρ.set j (.own md h'))) := by
  unfold callN
  have a1 : argSls ρ (.o j :: ds.map .d) = some (.own md.arg h :: ds.map .val) := by
    show (match argSl ρ (.o j), argSls ρ (ds.map .d) with
      | some a, some as => some (a :: as)
      | _, _ => none) = _
    have a0 : argSl ρ (.o j) = some (.own md.arg h) := by
      show (match ρ[j]? with
        | some (.own m t) => some (Sl.own m.arg t)
        | _ => none) = _
      rw [hj]
    rw [argSls_d, a0]
  have a2 : (decide ((Rv.o j :: ds.map .d).length = m0) && (oneEach (.o j :: ds.map .d) && allIn Ts (.o j :: ds.map .d))) = true := by
    have o1 : oneEach (Rv.o j :: ds.map .d) = true := by
      show ((posOf (ds.map .d) j).isNone && oneEach (ds.map .d)) = true
      rw [posOf_d, oneEach_d]
      rfl
    have o2 : allIn Ts (Rv.o j :: ds.map .d) = true := by
      show (Ts.contains j && allIn Ts (ds.map .d)) = true
      rw [hT, allIn_d]
      rfl
    rw [o1, o2, decide_eq_true (by rw [List.length_cons, List.length_map]; exact hl)]
    rfl
  rw [a1]
  show (if _ then _ else none) = _
  rw [if_pos a2, hG]
  have a3 : mrg (Sl.own md.arg h :: ds.map .val) (.own m h' :: rest) = .own m.unb h' :: ds.map .val := by
    show mrg1 (.own md.arg h) (some (.own m h')) :: mrg (ds.map .val) rest = _
    rw [mrg_d]
    rfl
  show (if backOk _ (mrg _ _) then _ else none) = _
  rw [a3]
  have a4 : backOk (Sl.own md.arg h :: ds.map .val) (.own m.unb h' :: ds.map .val) = true := backOk_d
  rw [if_pos a4]
  show some (Er.ok t (wb ρ (.o j :: ds.map .d) (.own m.unb h' :: ds.map .val))) = _
  have w : wb ρ (.o j :: ds.map .d) (.own m.unb h' :: ds.map .val) = ρ.set j (.own md h') := by
    unfold wb
    refine List.ext_getElem? fun i => ?_
    rw [wbGo_get, List.getElem?_set]
    have e : posOf (.o j :: ds.map .d) (0 + i) = if j = i then some 0 else none := by
      show (if j = 0 + i then some 0 else (posOf (ds.map .d) (0 + i)).map (· + 1)) = _
      rw [posOf_d, Nat.zero_add]
      rfl
    rw [e]
    by_cases z : j = i
    · subst z
      rw [if_pos rfl, if_pos rfl, hj, if_pos (List.getElem?_eq_some_iff.mp hj).1]
      rfl
    · rw [if_neg z, if_neg z]
      cases ρ[i]? <;> rfl
  rw [w]
theorem callN_d {ρ : Rho} {m0 : Nat} {t : Tr} {os : List Sl} {ds : List PyData} {G : Fn} {Ts : List Nat} (hl : ds.length = m0) (hG : G (ds.map .val) = some (.ret t, os)) : callN Ts m0 G (ds.map .d) ρ = some (.ok t ρ) := by
  unfold callN
  rw [argSls_d]
  show (if decide ((ds.map Rv.d).length = m0) && (oneEach (ds.map .d) && allIn Ts (ds.map .d)) then _ else none) = _
  rw [oneEach_d, allIn_d, decide_eq_true (by rw [List.length_map]; exact hl), if_pos (show (true && (true && true)) = true from rfl), hG]
  show (if backOk _ (mrg _ _) then _ else none) = _
  rw [mrg_d, backOk_d, if_pos rfl]
  have w : wb ρ (ds.map .d) (ds.map .val) = ρ := by
    unfold wb
    refine List.ext_getElem? fun i => ?_
    rw [wbGo_get, posOf_d]
    cases ρ[i]? <;> rfl
  rw [w]
section
variable {ρt : Rho} {P P1 P2 : PyData → Prop} {f f1 f2 fk : M Rv} {i : Nat}
noncomputable def Dr (ρt : Rho) (f : M Rv) (P : PyData → Prop) : Prop := ∀ b, BgOk b → ∃ d b', P d ∧ BgOk b' ∧ f (.own .pin (bgT b) :: ρt) = some (.ok (.d d) (.own .pin (bgT b') :: ρt))
noncomputable def DrB (ρt : Rho) (f : M Bool) (P : Bool → Prop) : Prop := ∀ b, BgOk b → ∃ d b', P d ∧ BgOk b' ∧ f (.own .pin (bgT b) :: ρt) = some (.ok d (.own .pin (bgT b') :: ρt))
noncomputable def DrA (ρt : Rho) (f : M (List Rv)) (P : List PyData → Prop) : Prop := ∀ b, BgOk b → ∃ ds b', P ds ∧ BgOk b' ∧ f (.own .pin (bgT b) :: ρt) = some (.ok (ds.map .d) (.own .pin (bgT b') :: ρt))
theorem Dr.mono (h : Dr ρt f P1) (k : ∀ d, P1 d → P d) : Dr ρt f P := fun b hb => by
  obtain ⟨d, b', p, hb', e⟩ := h b hb
  exact ⟨d, b', k d p, hb', e⟩
theorem Dr.val {d : PyData} (h : ρt[i]? = some (.val d)) (p : P d) : Dr ρt (cVar (i + 1)) P := fun b hb => ⟨d, b, p, hb, r_var (by rw [List.getElem?_cons_succ]; exact h)⟩
theorem Dr.con {d : PyData} (p : P d) : Dr ρt (cD d) P := fun b hb => ⟨d, b, p, hb, rfl⟩
theorem Dr.bin {g : PyData → PyData → Option PyData} (h1 : Dr ρt f1 P1) (h2 : Dr ρt f2 P2) (h : ∀ d e, P1 d → P2 e → ∃ r, g d e = some r ∧ P r) : Dr ρt (cBin g f1 f2) P := fun b hb => by
  obtain ⟨d, b1, p1, hb1, e1⟩ := h1 b hb
  obtain ⟨e, b2, p2, hb2, e2⟩ := h2 b1 hb1
  obtain ⟨r, hr, p⟩ := h d e p1 p2
  exact ⟨r, b2, p, hb2, r_bin e1 e2 hr⟩
theorem Dr.call {g : List PyData → Option PyData} (h1 : Dr ρt f P1) (h : ∀ d, P1 d → ∃ r, g [d] = some r ∧ P r) : Dr ρt (cCall g (aCons f aNil)) P := fun b hb => by
  obtain ⟨d, b1, p1, hb1, e1⟩ := h1 b hb
  obtain ⟨r, hr, p⟩ := h d p1
  exact ⟨r, b1, p, hb1, r_call1 e1 hr⟩
theorem DrB.cmp {g : PyData → PyData → Option Bool} {Q : Bool → Prop} (h1 : Dr ρt f1 P1) (h2 : Dr ρt f2 P2) (h : ∀ d e, P1 d → P2 e → ∃ r, g d e = some r ∧ Q r) : DrB ρt (cCmp g f1 f2) Q := fun b hb => by
  obtain ⟨d, b1, p1, hb1, e1⟩ := h1 b hb
  obtain ⟨e, b2, p2, hb2, e2⟩ := h2 b1 hb1
  obtain ⟨r, hr, p⟩ := h d e p1 p2
  exact ⟨r, b2, p, hb2, r_cmp e1 e2 hr⟩
theorem Dr.of {c : M Bool} {Q : Bool → Prop} (h : DrB ρt c Q) : Dr ρt (cOf c) fun d => ∃ b, d = .bool b ∧ Q b := fun b hb => by
  obtain ⟨d, b1, p1, hb1, e1⟩ := h b hb
  refine ⟨.bool d, b1, ⟨d, rfl, p1⟩, hb1, ?_⟩
  simp! only [setSl, List.replicate, pinS, Md.unb, VR.ap_fld1, VR.ap_pFld, VR.ap_pKey, VR.ap_keyT1, e1]
theorem DrA.nil : DrA ρt aNil (· = []) := fun b hb => ⟨[], b, rfl, hb, rfl⟩
theorem DrA.cons {g : M (List Rv)} {Q : List PyData → Prop} (h1 : Dr ρt f P1) (h2 : DrA ρt g Q) : DrA ρt (aCons f g) fun ds => ∃ d es, ds = d :: es ∧ P1 d ∧ Q es := fun b hb => by
  obtain ⟨d, b1, p1, hb1, e1⟩ := h1 b hb
  obtain ⟨es, b2, p2, hb2, e2⟩ := h2 b1 hb1
  refine ⟨d :: es, b2, ⟨d, es, rfl, p1, p2⟩, hb2, ?_⟩
  unfold aCons
  rw [bnd_ok e1, bnd_ok e2]
  rfl
theorem DrA.mono {g : M (List Rv)} {Q Q' : List PyData → Prop} (h : DrA ρt g Q) (k : ∀ d, Q d → Q' d) : DrA ρt g Q' := fun b hb => by
  obtain ⟨d, b', p, hb', e⟩ := h b hb
  exact ⟨d, b', k d p, hb', e⟩
theorem datas_d : ∀ ds : List PyData, datas (ds.map Rv.d) = some ds
  | [] => rfl
  | d :: ds => by
    show (datas (ds.map Rv.d)).map (d :: ·) = _
    rw [datas_d ds]
    rfl
theorem Dr.lst {g : M (List Rv)} {Q : List PyData → Prop} (h : DrA ρt g Q) (k : ∀ ds, Q ds → ds.length ≤ 1000) : Dr ρt (cFrz (nLst g)) fun d => ∃ ds, d = .list ds ∧ Q ds := fun b hb => by
  obtain ⟨ds, b', p, hb', e⟩ := h b hb
  refine ⟨.list ds, b', ⟨ds, rfl, p⟩, hb', r_frz (t := .lst (ds.map .dat)) ?_ toD_ds⟩
  unfold nLst
  rw [bnd_ok e]
  unfold mkLst
  rw [datas_d]
  show (if small ds.length then some (Er.ok (Tr.lst (ds.map .dat)) _) else none) = _
  rw [if_pos (small_of (by have := k ds p; omega))]
theorem Dr.tk {M0 : Int} (h : Dr ρt fk fun d => ∃ n, d = .int n ∧ 0 < n ∧ n ≤ M0) (hM : M0 ≤ 1000000000) : Dr ρt (cFrz (nCall [0] 2 fTake (aCons (cVar 0) (aCons fk aNil)))) fun d => ∃ v, d = .int v ∧ 0 ≤ v ∧ v < M0 := fun b hb => by
  obtain ⟨d, b1, ⟨n, rfl, n0, n1⟩, hb1, e1⟩ := h b hb
  obtain ⟨v, b2, hb2, v0, v1, e2⟩ := e_tk hb1 n0 (by omega)
  refine ⟨.int v, b2, ⟨v, rfl, v0, by omega⟩, hb2, r_frz (t := .dat (.int v)) ?_ rfl⟩
  unfold nCall
  have a : (aCons (cVar 0) (aCons fk aNil)) (.own .pin (bgT b) :: ρt) = some (.ok (.o 0 :: [PyData.int n].map .d) (.own .pin (bgT b1) :: ρt)) := by
    unfold aCons
    rw [bnd_ok (show cVar 0 (.own .pin (bgT b) :: ρt) = some (.ok (.o 0) (.own .pin (bgT b) :: ρt)) from rfl)]
    rw [show bnd (bnd fk fun x => bnd aNil fun xs => VL.ret (x :: xs)) (fun xs => VL.ret (Rv.o 0 :: xs)) (.own .pin (bgT b) :: ρt) = (some (.ok (.o 0 :: [PyData.int n].map .d) (.own .pin (bgT b1) :: ρt))) from by
      have : (bnd fk fun x => bnd aNil fun xs => VL.ret (x :: xs)) (.own .pin (bgT b) :: ρt) = some (.ok [.d (.int n)] (.own .pin (bgT b1) :: ρt)) := by
        rw [bnd_ok e1]
        rfl
      rw [bnd_ok this]
      rfl]
  rw [bnd_ok a]
  exact callN_m (j := 0) rfl rfl rfl e2
theorem Dr.tk1 {n : Int} (h : Dr ρt fk (· = .int n)) (n0 : 0 < n) (n1 : n ≤ 1000000000) : Dr ρt (cFrz (nCall [0] 2 fTake (aCons (cVar 0) (aCons fk aNil)))) fun d => ∃ v, d = .int v ∧ 0 ≤ v ∧ v < n := Dr.tk (h.mono fun d e => ⟨n, e, n0, Int.le_refl n⟩) n1
theorem Dr.sg : Dr ρt (cFrz (nCall [0] 1 fSign (aCons (cVar 0) aNil))) IsSign := fun b hb => by
  obtain ⟨d, b1, hb1, p, e⟩ := e_sg hb
  refine ⟨d, b1, p, hb1, r_frz (t := .dat d) ?_ rfl⟩
  unfold nCall
  rw [bnd_ok (show (aCons (cVar 0) aNil) (.own .pin (bgT b) :: ρt) = some (.ok (.o 0 :: ([] : List PyData).map .d) (.own .pin (bgT b) :: ρt)) from rfl)]
  exact callN_m (j := 0) rfl rfl rfl e
theorem Dr.set (h : Dr ρt f P) (hf : frB ρt[i]? = true) {b : Bag} (hb : BgOk b) : ∃ d b', P d ∧ BgOk b' ∧ sSet (i + 1) f (.own .pin (bgT b) :: ρt) = some (.nx (.own .pin (bgT b') :: ρt.set i (.val d))) := by
  obtain ⟨d, b1, p, hb1, e⟩ := h b hb
  exact ⟨d, b1, p, hb1, r_set e (by rw [List.getElem?_cons_succ]; exact hf)⟩
theorem Dr.ret (h : Dr ρt f P) {b : Bag} (hb : BgOk b) : ∃ d b', P d ∧ BgOk b' ∧ sRet (nDat f) (.own .pin (bgT b) :: ρt) = some (.rt (.dat d) (.own .pin (bgT b') :: ρt)) := by
  obtain ⟨d, b1, p, hb1, e⟩ := h b hb
  refine ⟨d, b1, p, hb1, ?_⟩
  simp! only [setSl, List.replicate, pinS, Md.unb, VR.ap_fld1, VR.ap_pFld, VR.ap_pKey, VR.ap_keyT1, e]
end
end SH

end

section
set_option Elab.async false
set_option linter.all false
set_option maxRecDepth 100000
set_option maxHeartbeats 2000000
namespace K09
open PySem PySem.Spec PyProof.Rows L2 VL SM SN SP SH
theorem q_appD {T2 : List Nat} {i : Nat} {g : M Tr} {ρ ρ1 : Rho} {ts : List Tr} {t : Tr} (h : ρ[i]? = some (.own .free (.lst ts))) (hg : g ρ = some (.ok t ρ1)) (h1 : ρ1[i]? = some (.own .free (.lst ts))) (hs : small (ts.length + 1) = true) (hT : T2.contains i = false) : sApp T2 (pVar i) g ρ = some (.nx (ρ1.set i (.own .free (.lst (ts ++ [t]))))) := by
  have mo : modeOk ρ1 i = true := by
    unfold modeOk
    rw [h1]
  have pa : ∀ t : Tr, VL.putAt ρ1 (i, []) t = ρ1.set i (.own .free t) := fun t => by
    unfold VL.putAt
    rw [h1]
    rfl
  have q : okS (sApp T2 (pVar i) g ρ) fun x => x = .nx (ρ1.set i (.own .free (.lst (ts ++ [t])))) := by
    refine okS_app (okM_eq (p_own h) ?_)
    refine ⟨by rw [t_own h]; rfl, okM_eq hg ⟨⟨hT, mo⟩, ts, t_own h1, hs, ?_⟩⟩
    rw [pa]
  obtain ⟨_, e, rfl⟩ := q
  exact e
theorem flat_u (U : List Nat) : (uL U).all flatD = true := by
  refine List.all_eq_true.mpr fun d hd => ?_
  obtain ⟨p, _, rfl⟩ := List.mem_map.mp hd
  rfl
theorem in_u (p : Nat) (U : List Nat) : notInD (.int (p : Nat)) (uD U) = some (!decide (p ∈ U)) := by
  show ((if flatD (.int (p : Nat)) && (uL U).all flatD then some ((uL U).any fun z => PyData.eqv z (.int (p : Nat))) else none).map (!·)) = _
  rw [flat_u, show flatD (.int (p : Nat)) = true from rfl, show (true && true) = true from rfl, if_pos rfl]
  show some (!((uL U).any fun z => PyData.eqv z (.int (p : Nat)))) = _
  congr 2
  rw [Bool.eq_iff_iff, List.any_eq_true, decide_eq_true_eq]
  constructor
  · rintro ⟨z, hz, e⟩
    obtain ⟨q, hq, rfl⟩ := List.mem_map.mp hz
    have e : PyData.eqv (.int (q : Nat)) (.int (p : Nat)) = true := e
    rw [PyData.eqv] at e
    have : (q : Int) = (p : Int) := by simpa using e
    rw [← Int.ofNat.inj this]; exact hq
  · intro h
    refine ⟨_, List.mem_map.mpr ⟨p, h, rfl⟩, ?_⟩
    show PyData.eqv (.int (p : Nat)) (.int (p : Nat)) = true
    rw [PyData.eqv]; simp
theorem ints_u : ∀ U : List Nat, intsD (uL U) = some (U.map fun p => ((p : Nat) : Int))
  | [] => rfl
  | p :: U => by
    show (intsD (uL U)).map (((p : Nat) : Int) :: ·) = _
    rw [ints_u U]; rfl
theorem sort_u (U : List Nat) : sortTD [uD U] = some (.list (uL (insS U))) := by
  show (match intsD (uL U) with
    | some ks => some (PyData.list ((sortI ks).map .int))
    | none => none) = _
  rw [ints_u]
  have e : (insS U).map (fun p => ((p : Nat) : Int)) = sortI (U.map fun p => ((p : Nat) : Int)) := sortI_uniq ((ins_perm U).map _) ((ins_srt U).map _ fun a b h => by omega)
  show some (PyData.list ((sortI (U.map fun p => ((p : Nat) : Int))).map .int)) = _
  rw [← e, List.map_map]
  rfl
noncomputable def eA (A : At) : List (NestedKey × PyData) := A.map fun kv => (kN kv.1, rL kv.2)
theorem eA_look : ∀ (A : At) (U : List Nat), lookP (eA A) (kN U) = (lookA A U).map rL
  | [], _ => rfl
  | kv :: A, U => by
    show lookP ((kN kv.1, rL kv.2) :: eA A) (kN U) = _
    rw [lookP_cons, lookA_cons, eA_look A U]
    by_cases h : kv.1 = U
    · rw [if_pos h, if_pos (kN_inj.mpr h)]; rfl
    · rw [if_neg h, if_neg fun z => h (kN_inj.mp z)]
theorem eA_put (A : At) (U : List Nat) (r : Rs) : putP (eA A) (kN U) (rL r) = eA (putA A U r) := by
  have ha : ((eA A).any fun kv => decide (kv.1 = kN U)) = (A.any fun kv => decide (kv.1 = U)) := by
    unfold eA
    rw [List.any_map]
    congr 1
    funext kv
    show decide (kN kv.1 = kN U) = _
    rw [Bool.eq_iff_iff, decide_eq_true_eq, decide_eq_true_eq]
    exact kN_inj
  unfold putP putA
  rw [ha]
  split
  · unfold eA
    rw [List.map_map, List.map_map]
    refine List.map_congr_left fun kv _ => ?_
    show (if kN kv.1 = kN U then (kN kv.1, rL r) else (kN kv.1, rL kv.2)) = (kN (if kv.1 = U then (kv.1, r) else kv).1, rL (if kv.1 = U then (kv.1, r) else kv).2)
    by_cases h : kv.1 = U
    · rw [if_pos h, if_pos (kN_inj.mpr h)]
    · rw [if_neg h, if_neg fun z => h (kN_inj.mp z)]
  · unfold eA
    rw [List.map_append]
    rfl
theorem eA_keys (A : At) : (eA A).map (fun kv => kv.1.data) = (A.map (·.1)).map uD := by
  unfold eA
  rw [List.map_map, List.map_map]
  exact List.map_congr_left fun kv _ => kN_data kv.1
theorem eA_len (A : At) : (eA A).length = A.length := List.length_map _
section
variable {os ts : List Crd} {v2 v3 v4 v5 v6 v7 v8 v9 v10 v11 v12 : Sl} {A E B : At} {U : List Nat} {n t : Nat} {od td : PyData}
noncomputable abbrev lsD (l : List Crd) : PyData := .list (l.map Crd.D)
noncomputable abbrev e13 (od td : PyData) (v2 v3 v4 v5 v6 v7 v8 v9 v10 v11 v12 : Sl) : Rho := [.val od, .val td, v2, v3, v4, v5, v6, v7, v8, v9, v10, v11, v12]
noncomputable abbrev dnA (A : At) : Sl := .own .free (.dn (eA A))
noncomputable abbrev snA (A : At) : Sl := .own .free (.sn (eA A))
theorem put_run (kv : List Nat × Rs) (hE : E.length + 1 ≤ 16777216) : b__law_least_0 (e13 od td v2 v3 (dnA E) v5 v6 v7 v8 v9 v10 (.val (uD kv.1)) (.val (rL kv.2))) = some (.nx (e13 od td v2 v3 (dnA (stepA E kv)) v5 v6 v7 v8 v9 v10 (.val (uD kv.1)) (.val (rL kv.2)))) := by
  have g : cNGet2 [] (pVar 4) (cVar 11) (cVar 12) (e13 od td v2 v3 (dnA E) v5 v6 v7 v8 v9 v10 (.val (uD kv.1)) (.val (rL kv.2))) = some (.ok (.d ((lookP (eA E) (kN kv.1)).getD (rL kv.2))) (e13 od td v2 v3 (dnA E) v5 v6 v7 v8 v9 v10 (.val (uD kv.1)) (.val (rL kv.2)))) := r_nget2 (m := .free) (.inl rfl) (r_var rfl) (r_var rfl) (nk_u kv.1)
  have ge : (lookP (eA E) (kN kv.1)).getD (rL kv.2) = rL ((lookA E kv.1).getD kv.2) := by
    rw [eA_look]
    cases lookA E kv.1 <;> rfl
  rw [ge] at g
  have mi := min_L kv.2 ((lookA E kv.1).getD kv.2)
  have mm : cCall min2TD (aCons (cVar 12) (aCons (cNGet2 [] (pVar 4) (cVar 11) (cVar 12)) aNil)) (e13 od td v2 v3 (dnA E) v5 v6 v7 v8 v9 v10 (.val (uD kv.1)) (.val (rL kv.2))) = some (.ok (.d (rL (mn kv.2 ((lookA E kv.1).getD kv.2)))) (e13 od td v2 v3 (dnA E) v5 v6 v7 v8 v9 v10 (.val (uD kv.1)) (.val (rL kv.2)))) := by
    generalize cNGet2 [] (pVar 4) (cVar 11) (cVar 12) = g1 at g ⊢
    simp! only [setSl, List.replicate, pinS, Md.unb, VR.ap_fld1, VR.ap_pFld, VR.ap_pKey, VR.ap_keyT1, g, mi]
  have q := r_nput (i := 4) (m := .free) (D := eA E) rfl (.inl rfl) mm (r_var (i := 11) rfl) (nk_u kv.1) (by rw [eA_len]; exact hE)
  rw [eA_put] at q
  exact q
theorem step_len (E : At) (kv : List Nat × Rs) : (stepA E kv).length ≤ E.length + 1 := put_len E kv.1 _
noncomputable abbrev kvD (kv : List Nat × Rs) : PyData := .tuple [uD kv.1, rL kv.2]
theorem puts_run : ∀ (L E : At) (v11 v12 : Sl), frB (some v11) = true → frB (some v12) = true → E.length + L.length ≤ 16777216 →
    ∃ w11 w12, frB (some w11) = true ∧ frB (some w12) = true ∧ loopF (VL.gT 2 (gsC (gN 11) (gsC (gN 12) gsN))) b__law_least_0 (L.map kvD) (e13 od td v2 v3 (dnA E) v5 v6 v7 v8 v9 v10 v11 v12) = some (.nx (e13 od td v2 v3 (dnA (L.foldl stepA E)) v5 v6 v7 v8 v9 v10 w11 w12))
  | [], E, v11, v12, h1, h2, _ => ⟨v11, v12, h1, h2, rfl⟩
  | kv :: L, E, v11, v12, h1, h2, hl => by
    rw [List.length_cons] at hl
    have sl := step_len E kv
    obtain ⟨w11, w12, g1, g2, e⟩ := puts_run L (stepA E kv) (.val (uD kv.1)) (.val (rL kv.2)) rfl rfl (by omega)
    refine ⟨w11, w12, g1, g2, ?_⟩
    have g : VL.gT 2 (gsC (gN 11) (gsC (gN 12) gsN)) (kvD kv) (e13 od td v2 v3 (dnA E) v5 v6 v7 v8 v9 v10 v11 v12) = some (e13 od td v2 v3 (dnA E) v5 v6 v7 v8 v9 v10 (.val (uD kv.1)) (.val (rL kv.2))) := r_gT2 (i := 11) (j := 12) h1 h2
    rw [List.map_cons, loop_cons g (put_run kv (by omega)), e]
    rfl
structure Cds (os ts : List Crd) : Prop where
  bel : ∀ x ∈ os, ∀ y ∈ ts, Bel x y
  so : ∀ x ∈ os, SideOk x.s
  st : ∀ y ∈ ts, SideOk y.s
  lo : os.length ≤ 7
  lt : ts.length ≤ 7
noncomputable def qn (os ts : List Crd) (i p : Nat) : Nat := match os[i]?, ts[p]? with
  | some x, some y => (qL x y).length
  | _, _ => 0
theorem sub_ls {l : List Crd} {i : Nat} {x : Crd} (h : l[i]? = some x) : subD (lsD l) (.int (i : Nat)) = some x.D := by
  show atI (l.map Crd.D) (i : Nat) = _
  exact L2.atI_nat (by rw [List.getElem?_map, h]; rfl)
theorem quar_run (H : Cds os ts) {i p : Nat} (hi : i < os.length) (hp : p < ts.length) :
    cCall lenD (aCons (cFrz (nCall [] 2 SM.F__law_quarrel (aCons (cBin subD (cVar 0) (cVar 3)) (aCons (cBin subD (cVar 1) (cVar 9)) aNil)))) aNil) (e13 (lsD os) (lsD ts) v2 (.val (.int (i : Nat))) v4 v5 v6 v7 v8 (.val (.int (p : Nat))) v10 v11 v12) =
      some (.ok (.d (.int (qn os ts i p : Nat))) (e13 (lsD os) (lsD ts) v2 (.val (.int (i : Nat))) v4 v5 v6 v7 v8 (.val (.int (p : Nat))) v10 v11 v12)) := by
  have hx := List.getElem?_eq_getElem hi
  have hy := List.getElem?_eq_getElem hp
  have mx := List.getElem_mem hi
  have my := List.getElem_mem hp
  obtain ⟨outs, e⟩ := of_okF1 (law_quarrel_ok (x := os[i]) (y := ts[p]) (H.so _ mx) (H.st _ my) (Q := fun t _ => t = .dat (qD os[i] ts[p])) fun _ => rfl)
  have a1 : cBin subD (cVar 0) (cVar 3) (e13 (lsD os) (lsD ts) v2 (.val (.int (i : Nat))) v4 v5 v6 v7 v8 (.val (.int (p : Nat))) v10 v11 v12) = some (.ok (.d os[i].D) (e13 (lsD os) (lsD ts) v2 (.val (.int (i : Nat))) v4 v5 v6 v7 v8 (.val (.int (p : Nat))) v10 v11 v12)) := r_bin (r_var rfl) (r_var rfl) (sub_ls hx)
  have a2 : cBin subD (cVar 1) (cVar 9) (e13 (lsD os) (lsD ts) v2 (.val (.int (i : Nat))) v4 v5 v6 v7 v8 (.val (.int (p : Nat))) v10 v11 v12) = some (.ok (.d ts[p].D) (e13 (lsD os) (lsD ts) v2 (.val (.int (i : Nat))) v4 v5 v6 v7 v8 (.val (.int (p : Nat))) v10 v11 v12)) := r_bin (r_var rfl) (r_var rfl) (sub_ls hy)
  have fs : aCons (cBin subD (cVar 0) (cVar 3)) (aCons (cBin subD (cVar 1) (cVar 9)) aNil) (e13 (lsD os) (lsD ts) v2 (.val (.int (i : Nat))) v4 v5 v6 v7 v8 (.val (.int (p : Nat))) v10 v11 v12) = some (.ok ([os[i].D, ts[p].D].map .d) (e13 (lsD os) (lsD ts) v2 (.val (.int (i : Nat))) v4 v5 v6 v7 v8 (.val (.int (p : Nat))) v10 v11 v12)) := by
    generalize cBin subD (cVar 0) (cVar 3) = g1 at a1 ⊢
    generalize cBin subD (cVar 1) (cVar 9) = g2 at a2 ⊢
    simp! only [setSl, List.replicate, pinS, Md.unb, VR.ap_fld1, VR.ap_pFld, VR.ap_pKey, VR.ap_keyT1, a1, a2]
  have cl : cFrz (nCall [] 2 SM.F__law_quarrel (aCons (cBin subD (cVar 0) (cVar 3)) (aCons (cBin subD (cVar 1) (cVar 9)) aNil))) (e13 (lsD os) (lsD ts) v2 (.val (.int (i : Nat))) v4 v5 v6 v7 v8 (.val (.int (p : Nat))) v10 v11 v12) = some (.ok (.d (qD os[i] ts[p])) (e13 (lsD os) (lsD ts) v2 (.val (.int (i : Nat))) v4 v5 v6 v7 v8 (.val (.int (p : Nat))) v10 v11 v12)) :=
    r_frz ((bnd_ok fs).trans (callN_d (m0 := 2) rfl e)) rfl
  refine r_call1 cl ?_
  unfold qD qn
  rw [if_pos (H.bel _ mx _ my), hx, hy]
  rfl
noncomputable abbrev sD (L : At) : Sl := .own .free (.lst ((L.map kvD).map .dat))
theorem more_run (H : Cds os ts) {i p : Nat} {r : Rs} {L : At} (hi : i < os.length) (hp : p < ts.length) (h10 : frB (some v10) = true) (hr : r.2.length ≤ 1000) (hUl : U.length ≤ 1000) (hL : L.length ≤ 1000) :
    ∃ w10, frB (some w10) = true ∧ b__law_least_1 (e13 (lsD os) (lsD ts) v2 (.val (.int (i : Nat))) v4 (.val (uD U)) (.val (.int (r.1 : Nat))) (.val (.list (r.2.map rowD))) (sD L) (.val (.int (p : Nat))) v10 v11 v12) =
      some (.nx (e13 (lsD os) (lsD ts) v2 (.val (.int (i : Nat))) v4 (.val (uD U)) (.val (.int (r.1 : Nat))) (.val (.list (r.2.map rowD))) (sD (if p ∈ U then L else L ++ [(insS (U ++ [p]), (r.1 + qn os ts i p, r.2 ++ [(i, p)]))])) (.val (.int (p : Nat))) w10 v11 v12)) := by
  have c : cCmp notInD (cVar 9) (cVar 5) (e13 (lsD os) (lsD ts) v2 (.val (.int (i : Nat))) v4 (.val (uD U)) (.val (.int (r.1 : Nat))) (.val (.list (r.2.map rowD))) (sD L) (.val (.int (p : Nat))) v10 v11 v12) = some (.ok (!decide (p ∈ U)) (e13 (lsD os) (lsD ts) v2 (.val (.int (i : Nat))) v4 (.val (uD U)) (.val (.int (r.1 : Nat))) (.val (.list (r.2.map rowD))) (sD L) (.val (.int (p : Nat))) v10 v11 v12)) := r_cmp (r_var rfl) (r_var rfl) (in_u p U)
  by_cases hU : p ∈ U
  · rw [decide_eq_true hU] at c
    refine ⟨v10, h10, ?_⟩
    rw [if_pos hU]
    exact r_ifF c
  · rw [decide_eq_false hU] at c
    refine ⟨.val (.int ((r.1 + qn os ts i p : Nat) : Int)), rfl, ?_⟩
    rw [if_neg hU]
    have q := quar_run (v2 := v2) (v4 := v4) (v5 := .val (uD U)) (v6 := .val (.int (r.1 : Nat))) (v7 := .val (.list (r.2.map rowD))) (v8 := sD L) (v10 := v10) (v11 := v11) (v12 := v12) H hi hp
    have s1 : sSet 10 (cBin addD (cVar 6) (cCall lenD (aCons (cFrz (nCall [] 2 SM.F__law_quarrel (aCons (cBin subD (cVar 0) (cVar 3)) (aCons (cBin subD (cVar 1) (cVar 9)) aNil)))) aNil))) (e13 (lsD os) (lsD ts) v2 (.val (.int (i : Nat))) v4 (.val (uD U)) (.val (.int (r.1 : Nat))) (.val (.list (r.2.map rowD))) (sD L) (.val (.int (p : Nat))) v10 v11 v12) =
        some (.nx (e13 (lsD os) (lsD ts) v2 (.val (.int (i : Nat))) v4 (.val (uD U)) (.val (.int (r.1 : Nat))) (.val (.list (r.2.map rowD))) (sD L) (.val (.int (p : Nat))) (.val (.int ((r.1 + qn os ts i p : Nat) : Int))) v11 v12)) := r_set (r_bin (r_var rfl) q rfl) h10
    generalize hw : (.val (.int ((r.1 + qn os ts i p : Nat) : Int)) : Sl) = w10 at s1 ⊢
    have ad1 : addD (uD U) (.tuple [.int (p : Nat)]) = some (uD (U ++ [p])) := by
      show (if small ((uL U).length + 1) = true then some (PyData.tuple (uL U ++ [.int (p : Nat)])) else none) = _
      rw [if_pos (small_iff.mpr (by unfold uL; rw [List.length_map, sizeLine_eq]; omega))]
      unfold uD uL
      rw [List.map_append]
      rfl
    have ad2 : addD (.list (r.2.map rowD)) (.list [rowD (i, p)]) = some (.list ((r.2 ++ [(i, p)]).map rowD)) := by
      show (if small ((r.2.map rowD).length + [rowD (i, p)].length) = true then some (PyData.list (r.2.map rowD ++ [rowD (i, p)])) else none) = _
      rw [if_pos (small_iff.mpr (by rw [List.length_map, sizeLine_eq, List.length_singleton]; omega)), List.map_append]
      rfl
    have k1 : cCall tupleD (aCons (cCall sortTD (aCons (cBin addD (cVar 5) (cTup (aCons (cVar 9) aNil))) aNil)) aNil) (e13 (lsD os) (lsD ts) v2 (.val (.int (i : Nat))) v4 (.val (uD U)) (.val (.int (r.1 : Nat))) (.val (.list (r.2.map rowD))) (sD L) (.val (.int (p : Nat))) w10 v11 v12) = some (.ok (.d (uD (insS (U ++ [p])))) (e13 (lsD os) (lsD ts) v2 (.val (.int (i : Nat))) v4 (.val (uD U)) (.val (.int (r.1 : Nat))) (.val (.list (r.2.map rowD))) (sD L) (.val (.int (p : Nat))) w10 v11 v12)) := r_call1 (r_call1 (r_bin (r_var rfl) rfl ad1) (sort_u _)) rfl
    have k2 : cBin addD (cVar 7) (cFrz (nLst (aCons (cTup (aCons (cVar 3) (aCons (cVar 9) aNil))) aNil))) (e13 (lsD os) (lsD ts) v2 (.val (.int (i : Nat))) v4 (.val (uD U)) (.val (.int (r.1 : Nat))) (.val (.list (r.2.map rowD))) (sD L) (.val (.int (p : Nat))) w10 v11 v12) = some (.ok (.d (.list ((r.2 ++ [(i, p)]).map rowD))) (e13 (lsD os) (lsD ts) v2 (.val (.int (i : Nat))) v4 (.val (uD U)) (.val (.int (r.1 : Nat))) (.val (.list (r.2.map rowD))) (sD L) (.val (.int (p : Nat))) w10 v11 v12)) := r_bin (d := .list (r.2.map rowD)) (e := .list [rowD (i, p)]) (r_var rfl) rfl ad2
    have k3 : cVar 10 (e13 (lsD os) (lsD ts) v2 (.val (.int (i : Nat))) v4 (.val (uD U)) (.val (.int (r.1 : Nat))) (.val (.list (r.2.map rowD))) (sD L) (.val (.int (p : Nat))) w10 v11 v12) = some (.ok (.d (.int ((r.1 + qn os ts i p : Nat) : Int))) (e13 (lsD os) (lsD ts) v2 (.val (.int (i : Nat))) v4 (.val (uD U)) (.val (.int (r.1 : Nat))) (.val (.list (r.2.map rowD))) (sD L) (.val (.int (p : Nat))) w10 v11 v12)) := r_var (by rw [← hw]; rfl)
    have k4 : nDat (cTup (aCons (cCall tupleD (aCons (cCall sortTD (aCons (cBin addD (cVar 5) (cTup (aCons (cVar 9) aNil))) aNil)) aNil)) (aCons (cTup (aCons (cVar 10) (aCons (cBin addD (cVar 7) (cFrz (nLst (aCons (cTup (aCons (cVar 3) (aCons (cVar 9) aNil))) aNil)))) aNil))) aNil))) (e13 (lsD os) (lsD ts) v2 (.val (.int (i : Nat))) v4 (.val (uD U)) (.val (.int (r.1 : Nat))) (.val (.list (r.2.map rowD))) (sD L) (.val (.int (p : Nat))) w10 v11 v12) =
        some (.ok (.dat (kvD (insS (U ++ [p]), (r.1 + qn os ts i p, r.2 ++ [(i, p)])))) (e13 (lsD os) (lsD ts) v2 (.val (.int (i : Nat))) v4 (.val (uD U)) (.val (.int (r.1 : Nat))) (.val (.list (r.2.map rowD))) (sD L) (.val (.int (p : Nat))) w10 v11 v12)) := by
      generalize cCall tupleD (aCons (cCall sortTD (aCons (cBin addD (cVar 5) (cTup (aCons (cVar 9) aNil))) aNil)) aNil) = g1 at k1 ⊢
      generalize cBin addD (cVar 7) (cFrz (nLst (aCons (cTup (aCons (cVar 3) (aCons (cVar 9) aNil))) aNil))) = g2 at k2 ⊢
      have e1 : cTup (aCons (cVar 10) (aCons g2 aNil)) (e13 (lsD os) (lsD ts) v2 (.val (.int (i : Nat))) v4 (.val (uD U)) (.val (.int (r.1 : Nat))) (.val (.list (r.2.map rowD))) (sD L) (.val (.int (p : Nat))) w10 v11 v12) = some (.ok (.d (rL (r.1 + qn os ts i p, r.2 ++ [(i, p)]))) (e13 (lsD os) (lsD ts) v2 (.val (.int (i : Nat))) v4 (.val (uD U)) (.val (.int (r.1 : Nat))) (.val (.list (r.2.map rowD))) (sD L) (.val (.int (p : Nat))) w10 v11 v12)) := by
        generalize cVar 10 = g3 at k3 ⊢
        have : rL (r.1 + qn os ts i p, r.2 ++ [(i, p)]) = .tuple [.int ((r.1 + qn os ts i p : Nat) : Int), .list ((r.2 ++ [(i, p)]).map rowD)] := rfl
        rw [this]
        generalize PyData.list ((r.2 ++ [(i, p)]).map rowD) = z at k2 ⊢
        simp! only [setSl, List.replicate, pinS, Md.unb, VR.ap_fld1, VR.ap_pFld, VR.ap_pKey, VR.ap_keyT1, k2, k3]
      generalize cTup (aCons (cVar 10) (aCons g2 aNil)) = g4 at e1 ⊢
      have : kvD (insS (U ++ [p]), (r.1 + qn os ts i p, r.2 ++ [(i, p)])) = .tuple [uD (insS (U ++ [p])), rL (r.1 + qn os ts i p, r.2 ++ [(i, p)])] := rfl
      rw [this]
      generalize rL (r.1 + qn os ts i p, r.2 ++ [(i, p)]) = z1 at e1 ⊢
      generalize uD (insS (U ++ [p])) = z2 at k1 ⊢
      simp! only [setSl, List.replicate, pinS, Md.unb, VR.ap_fld1, VR.ap_pFld, VR.ap_pKey, VR.ap_keyT1, k1, e1]
    have k5 := q_appD (T2 := []) (i := 8) (ts := (L.map kvD).map .dat) (by rfl) k4 (by rfl) (small_iff.mpr (by rw [List.length_map, List.length_map, sizeLine_eq]; omega)) rfl
    refine (r_ifT c).trans ((seq_nx s1).trans (k5.trans ?_))
    rw [show sD (L ++ [(insS (U ++ [p]), (r.1 + qn os ts i p, r.2 ++ [(i, p)]))]) = .own .free (.lst ((L.map kvD).map .dat ++ [.dat (kvD (insS (U ++ [p]), (r.1 + qn os ts i p, r.2 ++ [(i, p)])))])) from by
      show Sl.own .free (.lst (((L ++ [(insS (U ++ [p]), (r.1 + qn os ts i p, r.2 ++ [(i, p)]))]).map kvD).map .dat)) = _
      rw [List.map_append, List.map_append]; rfl]
    rfl
theorem mores_run (H : Cds os ts) {i : Nat} {r : Rs} (hi : i < os.length) (hr : r.2.length ≤ 1000) (hUl : U.length ≤ 1000) : ∀ (l : List Nat) (L : At) (v9 v10 : Sl), (∀ p ∈ l, p < ts.length) → frB (some v9) = true → frB (some v10) = true → L.length + l.length ≤ 1000 →
    ∃ w9 w10, frB (some w9) = true ∧ frB (some w10) = true ∧ loopF (gN 9) b__law_least_1 (l.map fun p => .int (0 + (p : Nat))) (e13 (lsD os) (lsD ts) v2 (.val (.int (i : Nat))) v4 (.val (uD U)) (.val (.int (r.1 : Nat))) (.val (.list (r.2.map rowD))) (sD L) v9 v10 v11 v12) =
      some (.nx (e13 (lsD os) (lsD ts) v2 (.val (.int (i : Nat))) v4 (.val (uD U)) (.val (.int (r.1 : Nat))) (.val (.list (r.2.map rowD))) (sD (L ++ (l.filter fun p => !decide (p ∈ U)).map fun p => (insS (U ++ [p]), (r.1 + qn os ts i p, r.2 ++ [(i, p)])))) w9 w10 v11 v12))
  | [], L, v9, v10, _, h9, h10, _ => ⟨v9, v10, h9, h10, by simp only [List.filter_nil, List.map_nil, List.append_nil]; rfl⟩
  | p :: l, L, v9, v10, hp, h9, h10, hl => by
    rw [List.length_cons] at hl
    obtain ⟨x10, g10, e1⟩ := more_run (v2 := v2) (v4 := v4) (U := U) (v10 := v10) (v11 := v11) (v12 := v12) (r := r) (L := L) H hi (hp p List.mem_cons_self) h10 hr hUl (by omega)
    have g : gN 9 (.int (0 + (p : Nat))) (e13 (lsD os) (lsD ts) v2 (.val (.int (i : Nat))) v4 (.val (uD U)) (.val (.int (r.1 : Nat))) (.val (.list (r.2.map rowD))) (sD L) v9 v10 v11 v12) = some (e13 (lsD os) (lsD ts) v2 (.val (.int (i : Nat))) v4 (.val (uD U)) (.val (.int (r.1 : Nat))) (.val (.list (r.2.map rowD))) (sD L) (.val (.int (p : Nat))) v10 v11 v12) := by
      rw [Int.zero_add]
      exact setSl_f (i := 9) h9
    obtain ⟨w9, w10, f9, f10, e2⟩ := mores_run H hi hr hUl l (if p ∈ U then L else L ++ [(insS (U ++ [p]), (r.1 + qn os ts i p, r.2 ++ [(i, p)]))]) (.val (.int (p : Nat))) x10 (fun q hq => hp q (List.mem_cons_of_mem _ hq)) rfl g10 (by
      split
      · omega
      · rw [List.length_append, List.length_singleton]; omega)
    refine ⟨w9, w10, f9, f10, ?_⟩
    rw [List.map_cons, loop_cons g e1, e2]
    congr 3
    by_cases hU : p ∈ U
    · rw [if_pos hU, List.filter_cons, if_neg (by simp [hU])]
    · rw [if_neg hU, List.filter_cons, if_pos (by simp [hU]), List.map_cons, List.append_assoc]
      rfl
theorem q_fz {i : Nat} {g : MS} {ρ : Rho} {t : Tr} {d : PyData} (h : ρ[i]? = some (.own .free t)) (td : t.toD = some d) : sFz i g ρ = g (ρ.set i (.val d)) := by
  unfold sFz frzSl
  rw [h]
  simp only
  rw [td]
  rfl
theorem turn_run (H : Cds os ts) {i : Nat} {r : Rs} (hi : i < os.length) (hB : lookA B U = some r) (hr : r.2.length ≤ 1000) (hUl : U.length ≤ 1000) (hE : E.length + 8 ≤ 16777216) (h6 : frB (some v6) = true) (h7 : frB (some v7) = true) (h8 : frB (some v8) = true) (h9 : frB (some v9) = true) (h10 : frB (some v10) = true) (h11 : frB (some v11) = true) (h12 : frB (some v12) = true) :
    ∃ w6 w7 w8 w9 w10 w11 w12, frB (some w6) = true ∧ frB (some w7) = true ∧ frB (some w8) = true ∧ frB (some w9) = true ∧ frB (some w10) = true ∧ frB (some w11) = true ∧ frB (some w12) = true ∧
      b__law_least_2 (e13 (lsD os) (lsD ts) (snA B) (.val (.int (i : Nat))) (dnA E) (.val (uD U)) v6 v7 v8 v9 v10 v11 v12) = some (.nx (e13 (lsD os) (lsD ts) (snA B) (.val (.int (i : Nat))) (dnA (turnA (qn os ts) ts.length i B E U)) (.val (uD U)) w6 w7 w8 w9 w10 w11 w12)) := by
  have g0 : cNGet [] (pVar 2) (cVar 5) (e13 (lsD os) (lsD ts) (snA B) (.val (.int (i : Nat))) (dnA E) (.val (uD U)) v6 v7 v8 v9 v10 v11 v12) = some (.ok (.d (rL r)) (e13 (lsD os) (lsD ts) (snA B) (.val (.int (i : Nat))) (dnA E) (.val (uD U)) v6 v7 v8 v9 v10 v11 v12)) := r_nget (m := .free) (.inr rfl) (r_var rfl) (nk_u U) (by rw [eA_look, hB]; rfl)
  have s1 : sAsg (VL.gT 2 (gsC (gN 6) (gsC (gN 7) gsN))) (cNGet [] (pVar 2) (cVar 5)) (e13 (lsD os) (lsD ts) (snA B) (.val (.int (i : Nat))) (dnA E) (.val (uD U)) v6 v7 v8 v9 v10 v11 v12) = some (.nx (e13 (lsD os) (lsD ts) (snA B) (.val (.int (i : Nat))) (dnA E) (.val (uD U)) (.val (.int (r.1 : Nat))) (.val (.list (r.2.map rowD))) v8 v9 v10 v11 v12)) := r_asg g0 (r_gT2 (i := 6) (j := 7) h6 h7)
  have n8 : nLst (aCons (cTup (aCons (cVar 5) (aCons (cTup (aCons (cBin addD (cVar 6) (cD (.int 2))) (aCons (cVar 7) aNil))) aNil))) aNil) (e13 (lsD os) (lsD ts) (snA B) (.val (.int (i : Nat))) (dnA E) (.val (uD U)) (.val (.int (r.1 : Nat))) (.val (.list (r.2.map rowD))) v8 v9 v10 v11 v12) =
      some (.ok (.lst (([(U, (r.1 + 2, r.2))].map kvD).map .dat)) (e13 (lsD os) (lsD ts) (snA B) (.val (.int (i : Nat))) (dnA E) (.val (uD U)) (.val (.int (r.1 : Nat))) (.val (.list (r.2.map rowD))) v8 v9 v10 v11 v12)) := rfl
  have s2 : sSetN 8 (nLst (aCons (cTup (aCons (cVar 5) (aCons (cTup (aCons (cBin addD (cVar 6) (cD (.int 2))) (aCons (cVar 7) aNil))) aNil))) aNil)) (e13 (lsD os) (lsD ts) (snA B) (.val (.int (i : Nat))) (dnA E) (.val (uD U)) (.val (.int (r.1 : Nat))) (.val (.list (r.2.map rowD))) v8 v9 v10 v11 v12) =
      some (.nx (e13 (lsD os) (lsD ts) (snA B) (.val (.int (i : Nat))) (dnA E) (.val (uD U)) (.val (.int (r.1 : Nat))) (.val (.list (r.2.map rowD))) (sD [(U, (r.1 + 2, r.2))]) v9 v10 v11 v12)) := r_setN n8 h8
  obtain ⟨x9, x10, f9, f10, e3⟩ := mores_run (v2 := snA B) (v4 := dnA E) (v11 := v11) (v12 := v12) (U := U) (r := r) H hi hr hUl (List.range ts.length) [(U, (r.1 + 2, r.2))] v9 v10 (fun p hp => List.mem_range.mp hp) h9 h10 (by rw [List.length_range, List.length_singleton]; have := H.lt; omega)
  have lt : lenD [lsD ts] = some (.int (ts.length : Nat)) := by
    show some (PyData.int ((ts.map Crd.D).length : Nat)) = _
    rw [List.length_map]
  have it : iRange1 (aCons (cCall lenD (aCons (cVar 1) aNil)) aNil) (e13 (lsD os) (lsD ts) (snA B) (.val (.int (i : Nat))) (dnA E) (.val (uD U)) (.val (.int (r.1 : Nat))) (.val (.list (r.2.map rowD))) (sD [(U, (r.1 + 2, r.2))]) v9 v10 v11 v12) = some (.ok ((List.range ts.length).map fun p => .int (0 + (p : Nat))) (e13 (lsD os) (lsD ts) (snA B) (.val (.int (i : Nat))) (dnA E) (.val (uD U)) (.val (.int (r.1 : Nat))) (.val (.list (r.2.map rowD))) (sD [(U, (r.1 + 2, r.2))]) v9 v10 v11 v12)) := by
    refine rng2 ?_ (by have := H.lt; omega)
    have l1 : cCall lenD (aCons (cVar 1) aNil) (e13 (lsD os) (lsD ts) (snA B) (.val (.int (i : Nat))) (dnA E) (.val (uD U)) (.val (.int (r.1 : Nat))) (.val (.list (r.2.map rowD))) (sD [(U, (r.1 + 2, r.2))]) v9 v10 v11 v12) = some (.ok (.d (.int (ts.length : Nat))) (e13 (lsD os) (lsD ts) (snA B) (.val (.int (i : Nat))) (dnA E) (.val (uD U)) (.val (.int (r.1 : Nat))) (.val (.list (r.2.map rowD))) (sD [(U, (r.1 + 2, r.2))]) v9 v10 v11 v12)) := r_call1 (r_var rfl) lt
    generalize cCall lenD (aCons (cVar 1) aNil) = g1 at l1 ⊢
    simp! only [setSl, List.replicate, pinS, Md.unb, VR.ap_fld1, VR.ap_pFld, VR.ap_pKey, VR.ap_keyT1, l1]
  have s3 := for_ok (g := gN 9) (b := b__law_least_1) it e3
  have es : [(U, (r.1 + 2, r.2))] ++ ((List.range ts.length).filter fun p => !decide (p ∈ U)).map (fun p => (insS (U ++ [p]), (r.1 + qn os ts i p, r.2 ++ [(i, p)]))) = someA (qn os ts) ts.length i U r := rfl
  rw [es] at s3
  have ll := some_len (qn os ts) ts.length i U r
  obtain ⟨w11, w12, f11, f12, e4⟩ := puts_run (od := lsD os) (td := lsD ts) (v2 := snA B) (v3 := .val (.int (i : Nat))) (v5 := .val (uD U)) (v6 := .val (.int (r.1 : Nat))) (v7 := .val (.list (r.2.map rowD))) (v8 := .val (.list ((someA (qn os ts) ts.length i U r).map kvD))) (v9 := x9) (v10 := x10) (someA (qn os ts) ts.length i U r) E v11 v12 h11 h12 (by have := H.lt; omega)
  have tu : turnA (qn os ts) ts.length i B E U = (someA (qn os ts) ts.length i U r).foldl stepA E := by
    unfold turnA
    rw [hB]; rfl
  refine ⟨.val (.int (r.1 : Nat)), .val (.list (r.2.map rowD)), .val (.list ((someA (qn os ts) ts.length i U r).map kvD)), x9, x10, w11, w12, rfl, rfl, rfl, f9, f10, f11, f12, ?_⟩
  rw [tu]
  refine (seq_nx s1).trans ((seq_nx s2).trans ((seq_nx s3).trans ?_))
  refine (q_fz (i := 8) (t := .lst (((someA (qn os ts) ts.length i U r).map kvD).map .dat)) rfl toD_ds).trans ?_
  exact for_ok (r_seq rfl) e4
end
end K09

end

section
set_option Elab.async false
set_option linter.all false
set_option maxRecDepth 100000
set_option maxHeartbeats 2000000
namespace K09
open PySem PySem.Spec PyProof.Rows L2 VL SM SN SP SH
section
variable {os ts : List Crd} {v2 v3 v4 v5 v6 v7 v8 v9 v10 v11 v12 : Sl} {A E B : At} {U : List Nat} {n t : Nat}
theorem turnA_len (C : Nat → Nat → Nat) (n i : Nat) (B E : At) (U : List Nat) : (turnA C n i B E U).length ≤ E.length + (n + 1) := by
  unfold turnA
  have := (fold_step (someA C n i U ((lookA B U).getD (0, []))) E).2.2.2
  have := some_len C n i U ((lookA B U).getD (0, []))
  omega
structure Nice (B : At) : Prop where
  r : ∀ U r, lookA B U = some r → r.2.length ≤ 1000 ∧ U.length ≤ 1000
theorem nice_of {C : Nat → Nat → Nat} {n t : Nat} {B : At} (G : GoodA C n t B) (ht : t ≤ 1000) : Nice B := ⟨fun U r h => by
  obtain ⟨_, ⟨ch, c1, c2, c3, c4⟩, _⟩ := G.mem U r h
  have l : (pls ch).length ≤ ch.length := List.length_filterMap_le _ _
  refine ⟨?_, ?_⟩
  · rw [c4]
    show (rowsOf 0 ch).length ≤ 1000
    rw [rows_len C]
    omega
  · rw [c3.length_eq]
    omega⟩
theorem keys_run (H : Cds os ts) {i : Nat} (hi : i < os.length) (N : Nice B) : ∀ (l : List (List Nat)) (E : At) (v5 v6 v7 v8 v9 v10 v11 v12 : Sl), (∀ U ∈ l, (lookA B U).isSome = true) → E.length + l.length * 8 + 8 ≤ 16777216 →
    vk v5 → frB (some v6) = true → frB (some v7) = true → frB (some v8) = true → frB (some v9) = true → frB (some v10) = true → frB (some v11) = true → frB (some v12) = true →
    ∃ w5 w6 w7 w8 w9 w10 w11 w12, vk w5 ∧ frB (some w6) = true ∧ frB (some w7) = true ∧ frB (some w8) = true ∧ frB (some w9) = true ∧ frB (some w10) = true ∧ frB (some w11) = true ∧ frB (some w12) = true ∧
      loopF (gN 5) b__law_least_2 (l.map uD) (e13 (lsD os) (lsD ts) (snA B) (.val (.int (i : Nat))) (dnA E) v5 v6 v7 v8 v9 v10 v11 v12) = some (.nx (e13 (lsD os) (lsD ts) (snA B) (.val (.int (i : Nat))) (dnA (l.foldl (turnA (qn os ts) ts.length i B) E)) w5 w6 w7 w8 w9 w10 w11 w12))
  | [], E, v5, v6, v7, v8, v9, v10, v11, v12, _, _, h5, h6, h7, h8, h9, h10, h11, h12 => ⟨v5, v6, v7, v8, v9, v10, v11, v12, h5, h6, h7, h8, h9, h10, h11, h12, rfl⟩
  | U :: l, E, v5, v6, v7, v8, v9, v10, v11, v12, hU, hl, h5, h6, h7, h8, h9, h10, h11, h12 => by
    rw [List.length_cons] at hl
    obtain ⟨r, hr⟩ := Option.isSome_iff_exists.mp (hU U List.mem_cons_self)
    obtain ⟨n1, n2⟩ := N.r U r hr
    obtain ⟨x6, x7, x8, x9, x10, x11, x12, f6, f7, f8, f9, f10, f11, f12, e1⟩ := turn_run (v6 := v6) (v7 := v7) (v8 := v8) (v9 := v9) (v10 := v10) (v11 := v11) (v12 := v12) (E := E) H hi hr n1 n2 (by omega) h6 h7 h8 h9 h10 h11 h12
    have tl := turnA_len (qn os ts) ts.length i B E U
    have := H.lt
    obtain ⟨w5, w6, w7, w8, w9, w10, w11, w12, g5, g6, g7, g8, g9, g10, g11, g12, e2⟩ := keys_run H hi N l (turnA (qn os ts) ts.length i B E U) (.val (uD U)) x6 x7 x8 x9 x10 x11 x12 (fun V hV => hU V (List.mem_cons_of_mem _ hV)) (by omega) vk_val f6 f7 f8 f9 f10 f11 f12
    refine ⟨w5, w6, w7, w8, w9, w10, w11, w12, g5, g6, g7, g8, g9, g10, g11, g12, ?_⟩
    have g : gN 5 (uD U) (e13 (lsD os) (lsD ts) (snA B) (.val (.int (i : Nat))) (dnA E) v5 v6 v7 v8 v9 v10 v11 v12) = some (e13 (lsD os) (lsD ts) (snA B) (.val (.int (i : Nat))) (dnA E) (.val (uD U)) v6 v7 v8 v9 v10 v11 v12) := setSl_f (i := 5) h5.1
    rw [List.map_cons, loop_cons g e1, e2]
    rfl
theorem q_fzn {i : Nat} {g : MS} {ρ : Rho} {D : List (NestedKey × PyData)} (h : ρ[i]? = some (.own .free (.dn D))) : sFzN i g ρ = g (ρ.set i (.own .free (.sn D))) := by
  have mo : modeOk ρ i = true := by
    unfold modeOk
    rw [h]
  unfold sFzN fzN
  rw [mo, if_pos rfl, h]
theorem it_keys {i : Nat} {ρ : Rho} {m : Md} (h : ρ[i]? = some (.own m (.sn (eA B)))) : iKeyN (pVar i) ρ = some (.ok ((B.map (·.1)).map uD) ρ) := by
  unfold iKeyN
  rw [bnd_ok (p_own h), t_own h]
  simp only
  rw [eA_keys]
theorem round_run (H : Cds os ts) {i : Nat} (hi : i < os.length) (N : Nice B) (hB : B.length * 8 + 8 ≤ 16777216) (h4 : frB (some v4) = true) (h5 : vk v5) (h6 : frB (some v6) = true) (h7 : frB (some v7) = true) (h8 : frB (some v8) = true) (h9 : frB (some v9) = true) (h10 : frB (some v10) = true) (h11 : frB (some v11) = true) (h12 : frB (some v12) = true) :
    ∃ w5 w6 w7 w8 w9 w10 w11 w12, vk w5 ∧ frB (some w6) = true ∧ frB (some w7) = true ∧ frB (some w8) = true ∧ frB (some w9) = true ∧ frB (some w10) = true ∧ frB (some w11) = true ∧ frB (some w12) = true ∧
      b__law_least_3 (e13 (lsD os) (lsD ts) (dnA B) (.val (.int (i : Nat))) v4 v5 v6 v7 v8 v9 v10 v11 v12) = some (.nx (e13 (lsD os) (lsD ts) (dnA (nextA (qn os ts) ts.length i B)) (.val (.int (i : Nat))) (.own .free .hole) w5 w6 w7 w8 w9 w10 w11 w12)) := by
  have s1 : sSetN 4 (nNew (.dn [])) (e13 (lsD os) (lsD ts) (dnA B) (.val (.int (i : Nat))) v4 v5 v6 v7 v8 v9 v10 v11 v12) = some (.nx (e13 (lsD os) (lsD ts) (dnA B) (.val (.int (i : Nat))) (dnA []) v5 v6 v7 v8 v9 v10 v11 v12)) := by
    have n0 : nNew (.dn []) (e13 (lsD os) (lsD ts) (dnA B) (.val (.int (i : Nat))) v4 v5 v6 v7 v8 v9 v10 v11 v12) = some (.ok (.dn []) (e13 (lsD os) (lsD ts) (dnA B) (.val (.int (i : Nat))) v4 v5 v6 v7 v8 v9 v10 v11 v12)) := rfl
    exact r_setN (i := 4) n0 h4
  obtain ⟨w5, w6, w7, w8, w9, w10, w11, w12, g5, g6, g7, g8, g9, g10, g11, g12, e2⟩ := keys_run H hi N (B.map (·.1)) [] v5 v6 v7 v8 v9 v10 v11 v12 (fun U hU => mem_look.mp hU) (by rw [List.length_map, List.length_nil]; omega) h5 h6 h7 h8 h9 h10 h11 h12
  have s2 : sFzN 2 (sFor (iKeyN (pVar 2)) (gN 5) b__law_least_2) (e13 (lsD os) (lsD ts) (dnA B) (.val (.int (i : Nat))) (dnA []) v5 v6 v7 v8 v9 v10 v11 v12) = some (.nx (e13 (lsD os) (lsD ts) (snA B) (.val (.int (i : Nat))) (dnA (nextA (qn os ts) ts.length i B)) w5 w6 w7 w8 w9 w10 w11 w12)) := by
    refine (q_fzn (i := 2) (D := eA B) rfl).trans ?_
    exact for_ok (it_keys (m := .free) rfl) e2
  refine ⟨w5, w6, w7, w8, w9, w10, w11, w12, g5, g6, g7, g8, g9, g10, g11, g12, ?_⟩
  refine (seq_nx s1).trans ((seq_nx s2).trans ?_)
  rfl
theorem pow8 {n t s : Nat} (hn : n ≤ 7) (ht : t ≤ s) : (n + 1) ^ t ≤ 8 ^ s := Nat.le_trans (Nat.pow_le_pow_left (by omega) t) (Nat.pow_le_pow_right (by decide) ht)
theorem e86 : (8 : Nat) ^ 6 = 262144 := by decide
theorem e87 : (8 : Nat) ^ 7 = 2097152 := by decide
theorem rounds_run (H : Cds os ts) : ∀ (k t : Nat) (v3 v4 v5 v6 v7 v8 v9 v10 v11 v12 : Sl), t + k ≤ os.length → frB (some v3) = true → frB (some v4) = true → vk v5 → frB (some v6) = true → frB (some v7) = true → frB (some v8) = true → frB (some v9) = true → frB (some v10) = true → frB (some v11) = true → frB (some v12) = true →
    ∃ w3 w4 w5 w6 w7 w8 w9 w10 w11 w12, vk w5 ∧
      loopF (gN 3) b__law_least_3 ((List.range' t k).map fun j => .int (0 + (j : Nat))) (e13 (lsD os) (lsD ts) (dnA (allA (qn os ts) ts.length t)) v3 v4 v5 v6 v7 v8 v9 v10 v11 v12) = some (.nx (e13 (lsD os) (lsD ts) (dnA (allA (qn os ts) ts.length (t + k))) w3 w4 w5 w6 w7 w8 w9 w10 w11 w12))
  | 0, t, v3, v4, v5, v6, v7, v8, v9, v10, v11, v12, _, _, _, h5, _, _, _, _, _, _, _ => ⟨v3, v4, v5, v6, v7, v8, v9, v10, v11, v12, h5, rfl⟩
  | k + 1, t, v3, v4, v5, v6, v7, v8, v9, v10, v11, v12, hk, h3, h4, h5, h6, h7, h8, h9, h10, h11, h12 => by
    have G := good_all (qn os ts) ts.length t
    have lo := H.lo
    have pw := pow8 H.lt (show t ≤ 6 by omega)
    rw [e86] at pw
    have gl := G.len
    obtain ⟨x5, x6, x7, x8, x9, x10, x11, x12, g5, g6, g7, g8, g9, g10, g11, g12, e1⟩ := round_run (i := t) (v4 := v4) (v5 := v5) (v6 := v6) (v7 := v7) (v8 := v8) (v9 := v9) (v10 := v10) (v11 := v11) (v12 := v12) H (by omega) (nice_of G (by omega)) (by omega) h4 h5 h6 h7 h8 h9 h10 h11 h12
    obtain ⟨w3, w4, w5, w6, w7, w8, w9, w10, w11, w12, f5, e2⟩ := rounds_run H k (t + 1) (.val (.int (t : Nat))) (.own .free .hole) x5 x6 x7 x8 x9 x10 x11 x12 (by omega) rfl rfl g5 g6 g7 g8 g9 g10 g11 g12
    refine ⟨w3, w4, w5, w6, w7, w8, w9, w10, w11, w12, f5, ?_⟩
    have g : gN 3 (.int (0 + (t : Nat))) (e13 (lsD os) (lsD ts) (dnA (allA (qn os ts) ts.length t)) v3 v4 v5 v6 v7 v8 v9 v10 v11 v12) = some (e13 (lsD os) (lsD ts) (dnA (allA (qn os ts) ts.length t)) (.val (.int (t : Nat))) v4 v5 v6 v7 v8 v9 v10 v11 v12) := by
      rw [Int.zero_add]
      exact setSl_f (i := 3) h3
    rw [List.range'_succ, List.map_cons, loop_cons g e1]
    rw [show t + (k + 1) = t + 1 + k from by omega]
    exact e2
theorem ls_len (l : List Crd) : lenD [lsD l] = some (.int (l.length : Nat)) := by
  show some (PyData.int ((l.map Crd.D).length : Nat)) = _
  rw [List.length_map]
theorem least_run (H : Cds os ts) : ∃ outs, F__law_least [.val (lsD os), .val (lsD ts)] = some (.ret (.dat (rL (fit (qn os ts) os.length 0 (List.range ts.length)))), outs) := by
  have lo := H.lo
  have lt := H.lt
  have s1 : sSetN 2 (nDN (cTup aNil) (cTup (aCons (cD (.int 0)) (aCons (cFrz (nLst aNil)) aNil)))) (e13 (lsD os) (lsD ts) .no .no .no .no .no .no .no .no .no .no .no) = some (.nx (e13 (lsD os) (lsD ts) (dnA (allA (qn os ts) ts.length 0)) .no .no .no .no .no .no .no .no .no .no)) := by
    have n0 : nDN (cTup aNil) (cTup (aCons (cD (.int 0)) (aCons (cFrz (nLst aNil)) aNil))) (e13 (lsD os) (lsD ts) .no .no .no .no .no .no .no .no .no .no .no) = some (.ok (.dn (eA (allA (qn os ts) ts.length 0))) (e13 (lsD os) (lsD ts) .no .no .no .no .no .no .no .no .no .no .no)) := rfl
    exact r_setN n0 rfl
  obtain ⟨w3, w4, w5, w6, w7, w8, w9, w10, w11, w12, f5, e2⟩ := rounds_run H os.length 0 .no .no .no .no .no .no .no .no .no .no (by omega) rfl rfl vk_no rfl rfl rfl rfl rfl rfl rfl
  rw [Nat.zero_add, ← List.range_eq_range'] at e2
  have it : iRange1 (aCons (cCall lenD (aCons (cVar 0) aNil)) aNil) (e13 (lsD os) (lsD ts) (dnA (allA (qn os ts) ts.length 0)) .no .no .no .no .no .no .no .no .no .no) = some (.ok ((List.range os.length).map fun j => .int (0 + (j : Nat))) (e13 (lsD os) (lsD ts) (dnA (allA (qn os ts) ts.length 0)) .no .no .no .no .no .no .no .no .no .no)) := by
    refine rng2 ?_ (by omega)
    have l1 : cCall lenD (aCons (cVar 0) aNil) (e13 (lsD os) (lsD ts) (dnA (allA (qn os ts) ts.length 0)) .no .no .no .no .no .no .no .no .no .no) = some (.ok (.d (.int (os.length : Nat))) (e13 (lsD os) (lsD ts) (dnA (allA (qn os ts) ts.length 0)) .no .no .no .no .no .no .no .no .no .no)) := r_call1 (r_var rfl) (ls_len os)
    generalize cCall lenD (aCons (cVar 0) aNil) = g1 at l1 ⊢
    simp! only [setSl, List.replicate, pinS, Md.unb, VR.ap_fld1, VR.ap_pFld, VR.ap_pKey, VR.ap_keyT1, l1]
  have s2 := for_ok (g := gN 3) (b := b__law_least_3) it e2
  have G := good_all (qn os ts) ts.length os.length
  generalize hA : allA (qn os ts) ts.length os.length = A at G s2
  have pw := pow8 lt lo
  rw [e87] at pw
  have gl := G.len
  have N := nice_of G (by omega)
  have itk : iKeyN (pVar 2) (e13 (lsD os) (lsD ts) (snA A) w3 w4 w5 w6 w7 w8 w9 w10 w11 w12) = some (.ok ((A.map (·.1)).map uD) (e13 (lsD os) (lsD ts) (snA A) w3 w4 w5 w6 w7 w8 w9 w10 w11 w12)) := it_keys (m := .free) rfl
  have cmp : cFrz (nComp (iKeyN (pVar 2)) [5] (gN 5) tYesM (cTup (aCons (cBin addD (cBin subD (cNGet [] (pVar 2) (cVar 5)) (cD (.int 0))) (cBin mulD (cD (.int 2)) (cBin subtD (cCall lenD (aCons (cVar 1) aNil)) (cCall lenD (aCons (cVar 5) aNil))))) (aCons (cBin subD (cNGet [] (pVar 2) (cVar 5)) (cD (.int 1))) aNil)))) (e13 (lsD os) (lsD ts) (snA A) w3 w4 w5 w6 w7 w8 w9 w10 w11 w12) =
      some (.ok (.d (.list ((A.map (·.1)).map fun U => rL (((lookA A U).getD (0, [])).1 + 2 * (ts.length - U.length), ((lookA A U).getD (0, [])).2)))) (e13 (lsD os) (lsD ts) (snA A) w3 w4 w5 w6 w7 w8 w9 w10 w11 w12)) := by
    refine r_compD (D := uD) (fun U => rL (((lookA A U).getD (0, [])).1 + 2 * (ts.length - U.length), ((lookA A U).getD (0, [])).2)) itk (by rw [List.length_map]; omega) (s := w5) rfl f5.2 fun U hU => ?_
    obtain ⟨r, hr⟩ := Option.isSome_iff_exists.mp (mem_look.mp hU)
    obtain ⟨_, ⟨ch, c1, c2, c3, c4⟩, _⟩ := G.mem U r hr
    have lU : U.length ≤ ts.length := by
      rw [c3.length_eq]
      have := nd_le c2.1 c2.2
      rwa [List.length_range] at this
    rw [hr, Option.getD_some]
    show cTup _ (e13 (lsD os) (lsD ts) (snA A) w3 w4 (.val (uD U)) w6 w7 w8 w9 w10 w11 w12) = some (.ok (.d _) (e13 (lsD os) (lsD ts) (snA A) w3 w4 (.val (uD U)) w6 w7 w8 w9 w10 w11 w12))
    have g : cNGet [] (pVar 2) (cVar 5) (e13 (lsD os) (lsD ts) (snA A) w3 w4 (.val (uD U)) w6 w7 w8 w9 w10 w11 w12) = some (.ok (.d (rL r)) (e13 (lsD os) (lsD ts) (snA A) w3 w4 (.val (uD U)) w6 w7 w8 w9 w10 w11 w12)) := r_nget (m := .free) (.inr rfl) (r_var rfl) (nk_u U) (by rw [eA_look, hr]; rfl)
    have ml : mulD (.int 2) (.int ((ts.length : Nat) - (U.length : Nat))) = some (.int ((2 * (ts.length - U.length) : Nat) : Int)) := by
      have ec : ((ts.length : Nat) : Int) - (U.length : Nat) = ((ts.length - U.length : Nat) : Int) := by omega
      rw [ec]
      show (if (2 : Int).natAbs < lim ∧ ((ts.length - U.length : Nat) : Int).natAbs < lim then some (PyData.int (2 * ((ts.length - U.length : Nat) : Int))) else none) = _
      rw [if_pos ⟨by decide, Nat.lt_of_le_of_lt (show ((ts.length - U.length : Nat) : Int).natAbs ≤ 1000 by omega) (by decide)⟩]
      rfl
    have a1 : cBin addD (cBin subD (cNGet [] (pVar 2) (cVar 5)) (cD (.int 0))) (cBin mulD (cD (.int 2)) (cBin subtD (cCall lenD (aCons (cVar 1) aNil)) (cCall lenD (aCons (cVar 5) aNil)))) (e13 (lsD os) (lsD ts) (snA A) w3 w4 (.val (uD U)) w6 w7 w8 w9 w10 w11 w12) = some (.ok (.d (.int ((r.1 + 2 * (ts.length - U.length) : Nat) : Int))) (e13 (lsD os) (lsD ts) (snA A) w3 w4 (.val (uD U)) w6 w7 w8 w9 w10 w11 w12)) :=
      r_bin (r_bin (r := .int (r.1 : Nat)) g rfl rfl) (r_bin rfl (r_bin (r_call1 (r_var rfl) (ls_len ts)) (r_call1 (r_var rfl) (len_u U)) rfl) ml) rfl
    have a2 : cBin subD (cNGet [] (pVar 2) (cVar 5)) (cD (.int 1)) (e13 (lsD os) (lsD ts) (snA A) w3 w4 (.val (uD U)) w6 w7 w8 w9 w10 w11 w12) = some (.ok (.d (.list (r.2.map rowD))) (e13 (lsD os) (lsD ts) (snA A) w3 w4 (.val (uD U)) w6 w7 w8 w9 w10 w11 w12)) := r_bin g rfl rfl
    generalize cBin addD (cBin subD (cNGet [] (pVar 2) (cVar 5)) (cD (.int 0))) (cBin mulD (cD (.int 2)) (cBin subtD (cCall lenD (aCons (cVar 1) aNil)) (cCall lenD (aCons (cVar 5) aNil)))) = g1 at a1 ⊢
    generalize cBin subD (cNGet [] (pVar 2) (cVar 5)) (cD (.int 1)) = g2 at a2 ⊢
    have : rL (r.1 + 2 * (ts.length - U.length), r.2) = .tuple [.int ((r.1 + 2 * (ts.length - U.length) : Nat) : Int), .list (r.2.map rowD)] := rfl
    rw [this]
    generalize PyData.list (r.2.map rowD) = z at a2 ⊢
    generalize PyData.int ((r.1 + 2 * (ts.length - U.length) : Nat) : Int) = z2 at a1 ⊢
    simp! only [setSl, List.replicate, pinS, Md.unb, VR.ap_fld1, VR.ap_pFld, VR.ap_pKey, VR.ap_keyT1, a1, a2]
  obtain ⟨x, xs, hx, hm⟩ := fin_min G
  have ef : (A.map (·.1)).map (fun U => rL (((lookA A U).getD (0, [])).1 + 2 * (ts.length - U.length), ((lookA A U).getD (0, [])).2)) = (x :: xs).map rL := by
    rw [← hx]
    unfold finA
    simp only [List.map_map]
    rfl
  rw [ef] at cmp
  have mi := r_call1 cmp (min_Ls x xs)
  rw [hm] at mi
  have s3 : sFzN 2 (sRet (nDat (cCall minTD (aCons (cFrz (nComp (iKeyN (pVar 2)) [5] (gN 5) tYesM (cTup (aCons (cBin addD (cBin subD (cNGet [] (pVar 2) (cVar 5)) (cD (.int 0))) (cBin mulD (cD (.int 2)) (cBin subtD (cCall lenD (aCons (cVar 1) aNil)) (cCall lenD (aCons (cVar 5) aNil))))) (aCons (cBin subD (cNGet [] (pVar 2) (cVar 5)) (cD (.int 1))) aNil))))) aNil)))) (e13 (lsD os) (lsD ts) (dnA A) w3 w4 w5 w6 w7 w8 w9 w10 w11 w12) =
      some (.rt (.dat (rL (fit (qn os ts) os.length 0 (List.range ts.length)))) (e13 (lsD os) (lsD ts) (snA A) w3 w4 w5 w6 w7 w8 w9 w10 w11 w12)) := by
    refine (q_fzn (i := 2) (D := eA A) rfl).trans ?_
    show sRet (nDat _) (e13 (lsD os) (lsD ts) (snA A) w3 w4 w5 w6 w7 w8 w9 w10 w11 w12) = _
    generalize cCall minTD (aCons (cFrz (nComp (iKeyN (pVar 2)) [5] (gN 5) tYesM (cTup (aCons (cBin addD (cBin subD (cNGet [] (pVar 2) (cVar 5)) (cD (.int 0))) (cBin mulD (cD (.int 2)) (cBin subtD (cCall lenD (aCons (cVar 1) aNil)) (cCall lenD (aCons (cVar 5) aNil))))) (aCons (cBin subD (cNGet [] (pVar 2) (cVar 5)) (cD (.int 1))) aNil))))) aNil) = g1 at mi ⊢
    simp! only [setSl, List.replicate, pinS, Md.unb, VR.ap_fld1, VR.ap_pFld, VR.ap_pKey, VR.ap_keyT1, mi]
  have fin : g__law_least (entry 13 [.val (lsD os), .val (lsD ts)]) = some (.rt (.dat (rL (fit (qn os ts) os.length 0 (List.range ts.length)))) (e13 (lsD os) (lsD ts) (snA A) w3 w4 w5 w6 w7 w8 w9 w10 w11 w12)) := (seq_nx s1).trans ((seq_nx s2).trans s3)
  exact ⟨_, run_rt fin⟩
end
end K09

end

section
set_option Elab.async false
set_option linter.all false
set_option maxRecDepth 100000
set_option maxHeartbeats 2000000
namespace K09
open PySem PySem.Spec PyProof.Rows L2 VL SM SN SP SH
section
variable {os ts : List Crd} {x y : Crd} {od td : PyData} {v2 v3 v4 v5 v6 : Sl}
noncomputable abbrev e7 (od td : PyData) (v2 v3 v4 v5 v6 : Sl) : Rho := [.val od, .val td, v2, v3, v4, v5, v6]
theorem bel_run : cFrz (nCall [2, 3] 2 SM.F_belong (aCons (cVar 2) (aCons (cVar 3) aNil))) (e7 od td (.val x.D) (.val y.D) v4 v5 v6) = some (.ok (.d (.bool (decide (Bel x y)))) (e7 od td (.val x.D) (.val y.D) v4 v5 v6)) := by
  obtain ⟨outs, e⟩ := of_okF1 (belong_ok (x := x) (y := y) (Q := fun t _ => t = .dat (.bool (decide (Bel x y)))) fun _ => rfl)
  have fs : aCons (cVar 2) (aCons (cVar 3) aNil) (e7 od td (.val x.D) (.val y.D) v4 v5 v6) = some (.ok ([x.D, y.D].map .d) (e7 od td (.val x.D) (.val y.D) v4 v5 v6)) := rfl
  exact r_frz ((bnd_ok fs).trans (callN_d (m0 := 2) rfl e)) rfl
theorem all_run (h3 : vk v3) (hl : ts.length ≤ 1000) : cCall allD (aCons (cFrz (nComp (iSeq (cVar 1)) [3] (gN 3) tYesM (cFrz (nCall [2, 3] 2 SM.F_belong (aCons (cVar 2) (aCons (cVar 3) aNil)))))) aNil) (e7 od (lsD ts) (.val x.D) v3 v4 v5 v6) = some (.ok (.d (.bool (ts.all fun y => decide (Bel x y)))) (e7 od (lsD ts) (.val x.D) v3 v4 v5 v6)) := by
  have it : iSeq (cVar 1) (e7 od (lsD ts) (.val x.D) v3 v4 v5 v6) = some (.ok (ts.map Crd.D) (e7 od (lsD ts) (.val x.D) v3 v4 v5 v6)) := r_seq rfl
  have c := r_compD (D := Crd.D) (ds := ts) (v := 3) (te := cFrz (nCall [2, 3] 2 SM.F_belong (aCons (cVar 2) (aCons (cVar 3) aNil)))) (fun y => .bool (decide (Bel x y))) it (by omega) (s := v3) rfl h3.2 (fun y hy => bel_run)
  refine r_call1 c ?_
  have b : boolsD (ts.map fun y => PyData.bool (decide (Bel x y))) = some (ts.map fun y => decide (Bel x y)) := by
    clear c it hl
    induction ts with
    | nil => rfl
    | cons y ts ih =>
      show (boolsD (ts.map fun y => PyData.bool (decide (Bel x y)))).map (decide (Bel x y) :: ·) = _
      rw [ih]; rfl
  show (boolsD (ts.map fun y => PyData.bool (decide (Bel x y)))).map (fun bs => PyData.bool (bs.all id)) = _
  rw [b]
  show some (PyData.bool ((ts.map fun y => decide (Bel x y)).all id)) = _
  rw [List.all_map]
  rfl
theorem r_test {f : M Rv} {ρ ρ1 : Rho} {b : Bool} (h : f ρ = some (.ok (.d (.bool b)) ρ1)) : cTest f ρ = some (.ok b ρ1) := by
  simp! only [setSl, List.replicate, pinS, Md.unb, VR.ap_fld1, VR.ap_pFld, VR.ap_pKey, VR.ap_keyT1, h]
theorem pass_run (H : Cds os ts) : ∀ (l : List Crd) (v2 : Sl), (∀ x ∈ l, x ∈ os) → vk v2 → vk v3 → ∃ w2, vk w2 ∧ loopF (gN 2) b_best_fit_0 (l.map Crd.D) (e7 od (lsD ts) v2 v3 v4 v5 v6) = some (.nx (e7 od (lsD ts) w2 v3 v4 v5 v6))
  | [], v2, _, h2, _ => ⟨v2, h2, rfl⟩
  | x :: l, v2, hx, h2, h3 => by
    obtain ⟨w2, g2, e⟩ := pass_run H l (.val x.D) (fun y hy => hx y (List.mem_cons_of_mem _ hy)) vk_val h3
    refine ⟨w2, g2, ?_⟩
    have g : gN 2 x.D (e7 od (lsD ts) v2 v3 v4 v5 v6) = some (e7 od (lsD ts) (.val x.D) v3 v4 v5 v6) := setSl_f (i := 2) h2.1
    have a := all_run (od := od) (x := x) (ts := ts) (v3 := v3) (v4 := v4) (v5 := v5) (v6 := v6) h3 (by have := H.lt; omega)
    have ab : (ts.all fun y => decide (Bel x y)) = true := List.all_eq_true.mpr fun y hy => decide_eq_true (H.bel x (hx x List.mem_cons_self) y hy)
    rw [ab] at a
    have b : b_best_fit_0 (e7 od (lsD ts) (.val x.D) v3 v4 v5 v6) = some (.nx (e7 od (lsD ts) (.val x.D) v3 v4 v5 v6)) := r_ifF (r_not (r_test a))
    rw [List.map_cons, loop_cons g b, e]
theorem loop_ex {g : MG} {b : MS} {d : PyData} {ds : List PyData} {ρ ρ1 ρ2 : Rho} {c : Str} (h : g d ρ = some ρ1) (e : b ρ1 = some (.ex c ρ2)) : loopF g b (d :: ds) ρ = some (.ex c ρ2) := by
  unfold loopF
  rw [h]
  simp only
  rw [e]
theorem stop_run {l : List Crd} (hx : ∃ y ∈ ts, ¬ Bel x y) (hl : ts.length ≤ 1000) : loopF (gN 2) b_best_fit_0 ((x :: l).map Crd.D) (e7 od (lsD ts) .no .no .no .no .no) = some (.ex SM.s_Unlike (e7 od (lsD ts) (.val x.D) .no .no .no .no)) := by
  have g : gN 2 x.D (e7 od (lsD ts) .no .no .no .no .no) = some (e7 od (lsD ts) (.val x.D) .no .no .no .no) := setSl_f (i := 2) rfl
  have a := all_run (od := od) (x := x) (ts := ts) (v3 := .no) (v4 := .no) (v5 := .no) (v6 := .no) vk_no hl
  have ab : (ts.all fun y => decide (Bel x y)) = false := by
    obtain ⟨y, hy, hn⟩ := hx
    exact List.all_eq_false.mpr ⟨y, hy, by simpa using hn⟩
  rw [ab] at a
  have b : b_best_fit_0 (e7 od (lsD ts) (.val x.D) .no .no .no .no) = some (.ex SM.s_Unlike (e7 od (lsD ts) (.val x.D) .no .no .no .no)) := r_ifT (r_not (r_test a))
  rw [List.map_cons, loop_ex g b]
theorem callR_d {ρ : Rho} {m0 : Nat} {t : Tr} {os : List Sl} {ds : List PyData} {G : Fn} {Ts : List Nat} (hl : ds.length = m0) (hG : G (ds.map .val) = some (.ret t, os)) : callR Ts m0 G (ds.map .d) ρ = some (.ok t ρ) := by
  unfold callR
  rw [SH.argSls_d]
  show (if decide ((ds.map Rv.d).length = m0) && (oneEach (ds.map .d) && allIn Ts (ds.map .d)) then _ else none) = _
  rw [SH.oneEach_d, SH.allIn_d, decide_eq_true (by rw [List.length_map]; exact hl), if_pos (show (true && (true && true)) = true from rfl), hG]
  show (if backOk _ (mrg _ _) then _ else none) = _
  rw [SH.mrg_d, SH.backOk_d, if_pos rfl]
  have w : wb ρ (ds.map .d) (ds.map .val) = ρ := by
    unfold wb
    refine List.ext_getElem? fun i => ?_
    rw [wbGo_get, SH.posOf_d]
    cases ρ[i]? <;> rfl
  rw [w]
theorem callR_dx {ρ : Rho} {m0 : Nat} {c : Str} {os : List Sl} {ds : List PyData} {G : Fn} {Ts : List Nat} (hl : ds.length = m0) (hG : G (ds.map .val) = some (.exc c, os)) : callR Ts m0 G (ds.map .d) ρ = some (.ex c ρ) := by
  unfold callR
  rw [SH.argSls_d]
  show (if decide ((ds.map Rv.d).length = m0) && (oneEach (ds.map .d) && allIn Ts (ds.map .d)) then _ else none) = _
  rw [SH.oneEach_d, SH.allIn_d, decide_eq_true (by rw [List.length_map]; exact hl), if_pos (show (true && (true && true)) = true from rfl), hG]
  show (if backOk _ (mrg _ _) then _ else none) = _
  rw [SH.mrg_d, SH.backOk_d, if_pos rfl]
  have w : wb ρ (ds.map .d) (ds.map .val) = ρ := by
    unfold wb
    refine List.ext_getElem? fun i => ?_
    rw [wbGo_get, SH.posOf_d]
    cases ρ[i]? <;> rfl
  rw [w]
theorem cost1_run (H : Cds os ts) (hx : x ∈ os) (hy : y ∈ ts) : cCall lenD (aCons (cFrz (nCallR [2, 3] 2 SM.F_quarrel_of (aCons (cVar 2) (aCons (cVar 3) aNil)))) aNil) (e7 od td (.val x.D) (.val y.D) v4 v5 v6) = some (.ok (.d (.int ((qL x y).length : Nat))) (e7 od td (.val x.D) (.val y.D) v4 v5 v6)) := by
  obtain ⟨outs, e⟩ := of_okF1 (quarrel_ok (x := x) (y := y) (H.so x hx) (H.st y hy) (H.bel x hx y hy) (Q := fun t _ => t = .dat (.tuple (qL x y))) fun _ => rfl)
  have fs : aCons (cVar 2) (aCons (cVar 3) aNil) (e7 od td (.val x.D) (.val y.D) v4 v5 v6) = some (.ok ([x.D, y.D].map .d) (e7 od td (.val x.D) (.val y.D) v4 v5 v6)) := rfl
  exact r_call1 (r_frz ((bnd_ok fs).trans (callR_d (m0 := 2) rfl e)) rfl) rfl
noncomputable def rowC (ts : List Crd) (x : Crd) : PyData := .list (ts.map fun y => .int ((qL x y).length : Nat))
noncomputable def cdD (os ts : List Crd) : PyData := .list (os.map fun x => rowC ts x)
theorem row_run (H : Cds os ts) (hx : x ∈ os) (h3 : vk v3) : cFrz (nComp (iSeq (cVar 1)) [3] (gN 3) tYesM (cCall lenD (aCons (cFrz (nCallR [2, 3] 2 SM.F_quarrel_of (aCons (cVar 2) (aCons (cVar 3) aNil)))) aNil))) (e7 od (lsD ts) (.val x.D) v3 v4 v5 v6) = some (.ok (.d (rowC ts x)) (e7 od (lsD ts) (.val x.D) v3 v4 v5 v6)) := by
  have it : iSeq (cVar 1) (e7 od (lsD ts) (.val x.D) v3 v4 v5 v6) = some (.ok (ts.map Crd.D) (e7 od (lsD ts) (.val x.D) v3 v4 v5 v6)) := r_seq rfl
  exact r_compD (D := Crd.D) (ds := ts) (v := 3) (fun y => .int ((qL x y).length : Nat)) it (by have := H.lt; omega) (s := v3) rfl h3.2 (fun y hy => cost1_run H hx hy)
theorem costs_run (H : Cds os ts) (h2 : vk v2) (h3 : vk v3) : cFrz (nComp (iSeq (cVar 0)) [2] (gN 2) tYesM (cFrz (nComp (iSeq (cVar 1)) [3] (gN 3) tYesM (cCall lenD (aCons (cFrz (nCallR [2, 3] 2 SM.F_quarrel_of (aCons (cVar 2) (aCons (cVar 3) aNil)))) aNil))))) (e7 (lsD os) (lsD ts) v2 v3 v4 v5 v6) = some (.ok (.d (cdD os ts)) (e7 (lsD os) (lsD ts) v2 v3 v4 v5 v6)) := by
  have it : iSeq (cVar 0) (e7 (lsD os) (lsD ts) v2 v3 v4 v5 v6) = some (.ok (os.map Crd.D) (e7 (lsD os) (lsD ts) v2 v3 v4 v5 v6)) := r_seq rfl
  exact r_compD (D := Crd.D) (ds := os) (v := 2) (fun x => rowC ts x) it (by have := H.lo; omega) (s := v2) rfl h2.2 (fun x hx => row_run H hx h3)
theorem cd_ok : CdOk (qn os ts) os.length ts.length (cdD os ts) := by
  refine ⟨?_, fun i p hi hp => ⟨rowC ts os[i], ?_, ?_⟩⟩
  · show some (PyData.int ((os.map fun x => rowC ts x).length : Nat)) = _
    rw [List.length_map]
  · exact L2.atI_nat (by rw [List.getElem?_map, List.getElem?_eq_getElem hi]; rfl)
  · refine L2.atI_nat ?_
    rw [List.getElem?_map, List.getElem?_eq_getElem hp]
    unfold qn
    rw [List.getElem?_eq_getElem hi, List.getElem?_eq_getElem hp]
    rfl
theorem wn_le {n : Nat} (hn : n ≤ 7) : ∀ k, Wn n k + 1 ≤ 9 ^ k
  | 0 => Nat.le_refl 1
  | k + 1 => by
    have ih := wn_le hn k
    show (n + 1) * Wn n k + 1 + 1 ≤ 9 ^ (k + 1)
    have h1 : (n + 1) * Wn n k ≤ 8 * Wn n k := Nat.mul_le_mul_right _ (by omega)
    rw [Nat.pow_succ]
    omega
theorem wn_7 {n k : Nat} (hn : n ≤ 7) (hk : k ≤ 7) : Wn n k ≤ 10000000 := by
  have h1 := wn_le hn k
  have h2 : (9 : Nat) ^ k ≤ 9 ^ 7 := Nat.pow_le_pow_right (by decide) hk
  have h3 : (9 : Nat) ^ 7 = 4782969 := by decide
  omega
theorem rng_run (H : Cds os ts) : cTupRng (cCall lenD (aCons (cVar 1) aNil)) (e7 od (lsD ts) v2 v3 v4 v5 v6) = some (.ok (.d (uD (List.range ts.length))) (e7 od (lsD ts) v2 v3 v4 v5 v6)) := by
  have l : cCall lenD (aCons (cVar 1) aNil) (e7 od (lsD ts) v2 v3 v4 v5 v6) = some (.ok (.d (.int (ts.length : Nat))) (e7 od (lsD ts) v2 v3 v4 v5 v6)) := r_call1 (r_var rfl) (ls_len ts)
  unfold cTupRng
  rw [bnd_ok l]
  show (if 0 ≤ ((ts.length : Nat) : Int) ∧ ((ts.length : Nat) : Int) ≤ 1000 then some (Er.ok (Rv.d (.tuple ((List.range ((ts.length : Nat) : Int).toNat).map fun i => .int (i : Nat)))) _) else none) = _
  rw [if_pos (by have := H.lt; omega)]
  rfl
theorem ap_nCallX {Ts : List Nat} {m : Nat} {f : Fn} {fs : M (List Rv × Tr)} {ρ : Rho} : nCallX Ts m f fs ρ = (bnd fs (callX Ts m f)) ρ := rfl
theorem ap_callX {Ts : List Nat} {m : Nat} {f : Fn} {a : List Rv × Tr} {ρ : Rho} : callX Ts m f a ρ = if Ts.all (fun j => decide (j < ρ.length)) then (match callN (ρ.length :: Ts) m f (a.1 ++ [.o ρ.length]) (ρ ++ [.own .free a.2, .no]) with
  | some (.ok t ρ1) => some (.ok t (ρ1.take ρ.length))
  | _ => none) else none := rfl
theorem ap_xLast {f : M Tr} {ρ : Rho} : xLast f ρ = (bnd f fun t => VL.ret ([], t)) ρ := rfl
theorem ap_xCons {f : M Rv} {g : M (List Rv × Tr)} {ρ : Rho} : xCons f g ρ = (bnd f fun x => bnd g fun p => VL.ret (x :: p.1, p.2)) ρ := rfl
noncomputable abbrev foT (r : Rs) : Tr := .tup [.dat (.int (r.1 : Nat)), .lst ((r.2.map rowD).map .dat)]
theorem fit_call (H : Cds os ts) : cFrz (nCallX [4] 4 (F_fit_from 12) (xCons (cVar 4) (xCons (cD (.int 0)) (xCons (cTupRng (cCall lenD (aCons (cVar 1) aNil))) (xLast (nNew (.dn []))))))) (e7 (lsD os) (lsD ts) v2 v3 (.val (cdD os ts)) v5 v6) =
    some (.ok (.d (rT (fit (qn os ts) os.length 0 (List.range ts.length)))) (e7 (lsD os) (lsD ts) v2 v3 (.val (cdD os ts)) v5 v6)) := by
  have lo := H.lo
  have lt := H.lt
  obtain ⟨D', _, _, e⟩ := fit_run (cd_ok (os := os) (ts := ts)) (by omega) (by omega) os.length 12 0 (by omega) (by omega) (List.range ts.length) [] List.nodup_range (fun q hq => List.mem_range.mp hq) (by rw [List.length_range]; exact Nat.le_refl _) (fun i U d _ h => nomatch h) (by have := wn_7 lt lo; rw [List.length_nil]; omega)
  have e' : F_fit_from 12 [.val (cdD os ts), .val (.int 0), .val (uD (List.range ts.length)), .own .free (.dn [])] = some (.ret (.dat (rT (fit (qn os ts) os.length 0 (List.range ts.length)))), [.val (cdD os ts), .val (.int 0), .val (uD (List.range ts.length)), .own .pin (.dn D')]) := e
  have rg := fun {w2 w3 w4 w5 w6 : Sl} => rng_run (od := lsD os) (v2 := w2) (v3 := w3) (v4 := w4) (v5 := w5) (v6 := w6) H
  have rg' := rg (w2 := v2) (w3 := v3) (w4 := .val (cdD os ts)) (w5 := v5) (w6 := v6)
  generalize F_fit_from 12 = F at e' ⊢
  generalize cTupRng (cCall lenD (aCons (cVar 1) aNil)) = g1 at rg' ⊢
  generalize rT (fit (qn os ts) os.length 0 (List.range ts.length)) = z at e' ⊢
  generalize cdD os ts = z1 at e' rg' ⊢
  generalize uD (List.range ts.length) = z2 at e' rg' ⊢
  simp! only [setSl, List.replicate, pinS, Md.unb, VR.ap_fld1, VR.ap_pFld, VR.ap_pKey, VR.ap_keyT1, ap_nCallX, ap_callX, ap_xLast, ap_xCons, cv_dn, rg', e']
theorem best_ok (H : Cds os ts) : ∃ outs, F_best_fit [.val (lsD os), .val (lsD ts)] = some (.ret (foT (fit (qn os ts) os.length 0 (List.range ts.length))), outs) := by
  obtain ⟨w2, g2, e1⟩ := pass_run (od := lsD os) (v3 := .no) (v4 := .no) (v5 := .no) (v6 := .no) H os .no (fun _ h => h) vk_no vk_no
  have s1 := for_ok (g := gN 2) (b := b_best_fit_0) (r_seq (ρ := e7 (lsD os) (lsD ts) .no .no .no .no .no) (i := 0) rfl) e1
  have s2 : sSet 4 (cFrz (nComp (iSeq (cVar 0)) [2] (gN 2) tYesM (cFrz (nComp (iSeq (cVar 1)) [3] (gN 3) tYesM (cCall lenD (aCons (cFrz (nCallR [2, 3] 2 SM.F_quarrel_of (aCons (cVar 2) (aCons (cVar 3) aNil)))) aNil)))))) (e7 (lsD os) (lsD ts) w2 .no .no .no .no) = some (.nx (e7 (lsD os) (lsD ts) w2 .no (.val (cdD os ts)) .no .no)) := r_set (costs_run H g2 vk_no) rfl
  generalize hr : fit (qn os ts) os.length 0 (List.range ts.length) = r
  have fc := fit_call (v2 := w2) (v3 := .no) (v5 := .no) (v6 := .no) H
  rw [hr] at fc
  have s3 : sAsg (VL.gT 2 (gsC (gN 5) (gsC (gN 6) gsN))) (cFrz (nCallX [4] 4 (F_fit_from 12) (xCons (cVar 4) (xCons (cD (.int 0)) (xCons (cTupRng (cCall lenD (aCons (cVar 1) aNil))) (xLast (nNew (.dn [])))))))) (e7 (lsD os) (lsD ts) w2 .no (.val (cdD os ts)) .no .no) = some (.nx (e7 (lsD os) (lsD ts) w2 .no (.val (cdD os ts)) (.val (.int (r.1 : Nat))) (.val (.tuple (r.2.map rowD))))) := r_asg fc (r_gT2 (i := 5) (j := 6) rfl rfl)
  have nl : nListD (cVar 6) (e7 (lsD os) (lsD ts) w2 .no (.val (cdD os ts)) (.val (.int (r.1 : Nat))) (.val (.tuple (r.2.map rowD)))) = some (.ok (.lst ((r.2.map rowD).map .dat)) (e7 (lsD os) (lsD ts) w2 .no (.val (cdD os ts)) (.val (.int (r.1 : Nat))) (.val (.tuple (r.2.map rowD))))) := rfl
  have s4 : sRet (nTupT (tConsM (nDat (cVar 5)) (tConsM (nListD (cVar 6)) tNilM))) (e7 (lsD os) (lsD ts) w2 .no (.val (cdD os ts)) (.val (.int (r.1 : Nat))) (.val (.tuple (r.2.map rowD)))) = some (.rt (foT r) (e7 (lsD os) (lsD ts) w2 .no (.val (cdD os ts)) (.val (.int (r.1 : Nat))) (.val (.tuple (r.2.map rowD))))) := rfl
  have fin : g_best_fit (entry 7 [.val (lsD os), .val (lsD ts)]) = some (.rt (foT r) (e7 (lsD os) (lsD ts) w2 .no (.val (cdD os ts)) (.val (.int (r.1 : Nat))) (.val (.tuple (r.2.map rowD))))) := (seq_nx s1).trans ((seq_nx s2).trans ((seq_nx s3).trans s4))
  exact ⟨_, run_rt fin⟩
theorem run_ex {n : Nat} {g : MS} {args ρ' : Rho} {c : Str} (h : g (entry n args) = some (.ex c ρ')) : runF n g args = some (.exc c, ρ'.take args.length) := by
  unfold runF
  rw [h]
theorem seq_ex {g h : MS} {ρ ρ1 : Rho} {c : Str} (e : g ρ = some (.ex c ρ1)) : sSeq g h ρ = some (.ex c ρ1) := by
  unfold sSeq
  rw [e]
theorem best_ex {l : List Crd} (hx : ∃ y ∈ ts, ¬ Bel x y) (hl : ts.length ≤ 1000) : F_best_fit [.val (lsD (x :: l)), .val (lsD ts)] = some (.exc SM.s_Unlike, [.val (lsD (x :: l)), .val (lsD ts)]) := by
  have e1 := stop_run (od := lsD (x :: l)) (l := l) hx hl
  have s1 := for_ok (g := gN 2) (b := b_best_fit_0) (r_seq (ρ := e7 (lsD (x :: l)) (lsD ts) .no .no .no .no .no) (i := 0) rfl) e1
  have fin : g_best_fit (entry 7 [.val (lsD (x :: l)), .val (lsD ts)]) = some (.ex SM.s_Unlike (e7 (lsD (x :: l)) (lsD ts) (.val x.D) .no .no .no .no)) := seq_ex s1
  exact run_ex fin
noncomputable abbrev e5 (od td : PyData) (v2 v3 v4 : Sl) : Rho := [.val od, .val td, v2, v3, v4]
theorem eq_e : eqD (.str s_x) (.str s_x) = some true := by decide +kernel
theorem eq_u : eqD (.str s_x556e6c696b652b) (.str s_x) = some false := by decide +kernel
theorem asked_ok (H : Cds os ts) : ∃ outs, F__law_asked [.val (lsD os), .val (lsD ts)] = some (.ret (foT (fit (qn os ts) os.length 0 (List.range ts.length))), outs) := by
  obtain ⟨outs, e⟩ := best_ok H
  generalize fit (qn os ts) os.length 0 (List.range ts.length) = r at e ⊢
  have s1 : sSet 2 (cD .none) (e5 (lsD os) (lsD ts) .no .no .no) = some (.nx (e5 (lsD os) (lsD ts) (.val .none) .no .no)) := rfl
  have s2 : sSet 3 (cD (.str s_x)) (e5 (lsD os) (lsD ts) (.val .none) .no .no) = some (.nx (e5 (lsD os) (lsD ts) (.val .none) (.val (.str s_x)) .no)) := rfl
  have fs : aCons (cVar 0) (aCons (cVar 1) aNil) (e5 (lsD os) (lsD ts) (.val .none) (.val (.str s_x)) .no) = some (.ok ([lsD os, lsD ts].map .d) (e5 (lsD os) (lsD ts) (.val .none) (.val (.str s_x)) .no)) := rfl
  have cl : nCallR [0, 1] 2 F_best_fit (aCons (cVar 0) (aCons (cVar 1) aNil)) (e5 (lsD os) (lsD ts) (.val .none) (.val (.str s_x)) .no) = some (.ok (foT r) (e5 (lsD os) (lsD ts) (.val .none) (.val (.str s_x)) .no)) := (bnd_ok fs).trans (callR_d (m0 := 2) rfl e)
  have s3 : sTryK kNames 4 3 (sSetN 2 (nCallR [0, 1] 2 F_best_fit (aCons (cVar 0) (aCons (cVar 1) aNil)))) (e5 (lsD os) (lsD ts) (.val .none) (.val (.str s_x)) .no) = some (.nx (e5 (lsD os) (lsD ts) (.own .free (foT r)) (.val (.str s_x)) .no)) := by
    have q := r_setN (i := 2) cl rfl
    unfold sTryK
    rw [q]
    rfl
  have c : cCmp eqD (cVar 3) (cD (.str s_x)) (e5 (lsD os) (lsD ts) (.own .free (foT r)) (.val (.str s_x)) .no) = some (.ok true (e5 (lsD os) (lsD ts) (.own .free (foT r)) (.val (.str s_x)) .no)) := r_cmp (r_var rfl) rfl eq_e
  have s4 : sRet (cIf (cCmp eqD (cVar 3) (cD (.str s_x))) (nMv 2) (nDat (cVar 3))) (e5 (lsD os) (lsD ts) (.own .free (foT r)) (.val (.str s_x)) .no) = some (.rt (foT r) (e5 (lsD os) (lsD ts) (.own .free .hole) (.val (.str s_x)) .no)) := by
    have q : cIf (cCmp eqD (cVar 3) (cD (.str s_x))) (nMv 2) (nDat (cVar 3)) (e5 (lsD os) (lsD ts) (.own .free (foT r)) (.val (.str s_x)) .no) = some (.ok (foT r) (e5 (lsD os) (lsD ts) (.own .free .hole) (.val (.str s_x)) .no)) := by
      unfold cIf
      rw [bnd_ok c]
      rfl
    unfold sRet
    exact (sE_ok q).trans rfl
  have fin : g__law_asked (entry 5 [.val (lsD os), .val (lsD ts)]) = some (.rt (foT r) (e5 (lsD os) (lsD ts) (.own .free .hole) (.val (.str s_x)) .no)) := (seq_nx s1).trans ((seq_nx s2).trans ((seq_nx s3).trans s4))
  exact ⟨_, run_rt fin⟩
theorem asked_ex {l : List Crd} (hx : ∃ y ∈ ts, ¬ Bel x y) (hl : ts.length ≤ 1000) : ∃ outs, F__law_asked [.val (lsD (x :: l)), .val (lsD ts)] = some (.ret (.dat (.str s_x556e6c696b652b)), outs) := by
  have e := best_ex (l := l) hx hl
  generalize x :: l = os at e ⊢
  have s1 : sSet 2 (cD .none) (e5 (lsD os) (lsD ts) .no .no .no) = some (.nx (e5 (lsD os) (lsD ts) (.val .none) .no .no)) := rfl
  have s2 : sSet 3 (cD (.str s_x)) (e5 (lsD os) (lsD ts) (.val .none) .no .no) = some (.nx (e5 (lsD os) (lsD ts) (.val .none) (.val (.str s_x)) .no)) := rfl
  have fs : aCons (cVar 0) (aCons (cVar 1) aNil) (e5 (lsD os) (lsD ts) (.val .none) (.val (.str s_x)) .no) = some (.ok ([lsD os, lsD ts].map .d) (e5 (lsD os) (lsD ts) (.val .none) (.val (.str s_x)) .no)) := rfl
  have cl : nCallR [0, 1] 2 F_best_fit (aCons (cVar 0) (aCons (cVar 1) aNil)) (e5 (lsD os) (lsD ts) (.val .none) (.val (.str s_x)) .no) = some (.ex SM.s_Unlike (e5 (lsD os) (lsD ts) (.val .none) (.val (.str s_x)) .no)) := (bnd_ok fs).trans (callR_dx (m0 := 2) rfl e)
  have pl : SM.s_Unlike ++ plusS = s_x556e6c696b652b := by decide +kernel
  have mk : SM.s_Unlike ∈ kNames := by decide +kernel
  have s3 : sTryK kNames 4 3 (sSetN 2 (nCallR [0, 1] 2 F_best_fit (aCons (cVar 0) (aCons (cVar 1) aNil)))) (e5 (lsD os) (lsD ts) (.val .none) (.val (.str s_x)) .no) = some (.nx (e5 (lsD os) (lsD ts) (.val .none) (.val (.str s_x556e6c696b652b)) .no)) := by
    have q : sSetN 2 (nCallR [0, 1] 2 F_best_fit (aCons (cVar 0) (aCons (cVar 1) aNil))) (e5 (lsD os) (lsD ts) (.val .none) (.val (.str s_x)) .no) = some (.ex SM.s_Unlike (e5 (lsD os) (lsD ts) (.val .none) (.val (.str s_x)) .no)) := by
      unfold sSetN sE
      rw [cl]
    unfold sTryK
    rw [q]
    simp only
    rw [if_pos ⟨mk, rfl⟩, pl]
    rfl
  have c : cCmp eqD (cVar 3) (cD (.str s_x)) (e5 (lsD os) (lsD ts) (.val .none) (.val (.str s_x556e6c696b652b)) .no) = some (.ok false (e5 (lsD os) (lsD ts) (.val .none) (.val (.str s_x556e6c696b652b)) .no)) := r_cmp (r_var rfl) rfl eq_u
  have s4 : sRet (cIf (cCmp eqD (cVar 3) (cD (.str s_x))) (nMv 2) (nDat (cVar 3))) (e5 (lsD os) (lsD ts) (.val .none) (.val (.str s_x556e6c696b652b)) .no) = some (.rt (.dat (.str s_x556e6c696b652b)) (e5 (lsD os) (lsD ts) (.val .none) (.val (.str s_x556e6c696b652b)) .no)) := by
    have q : cIf (cCmp eqD (cVar 3) (cD (.str s_x))) (nMv 2) (nDat (cVar 3)) (e5 (lsD os) (lsD ts) (.val .none) (.val (.str s_x556e6c696b652b)) .no) = some (.ok (.dat (.str s_x556e6c696b652b)) (e5 (lsD os) (lsD ts) (.val .none) (.val (.str s_x556e6c696b652b)) .no)) := by
      unfold cIf
      rw [bnd_ok c]
      rfl
    unfold sRet
    exact (sE_ok q).trans rfl
  have fin : g__law_asked (entry 5 [.val (lsD os), .val (lsD ts)]) = some (.rt (.dat (.str s_x556e6c696b652b)) (e5 (lsD os) (lsD ts) (.val .none) (.val (.str s_x556e6c696b652b)) .no)) := (seq_nx s1).trans ((seq_nx s2).trans ((seq_nx s3).trans s4))
  exact ⟨_, run_rt fin⟩
end
end K09

end

section
set_option Elab.async false
set_option linter.all false
set_option maxRecDepth 100000
set_option maxHeartbeats 2000000
namespace K09
open PySem PySem.Spec PyProof.Rows L2 VL SM SN SP SH
theorem Dr_tup {ρt : Rho} {g : M (List Rv)} {Q : List PyData → Prop} (h : DrA ρt g Q) (k : ∀ ds, Q ds → ds.length ≤ 1000) : Dr ρt (cTup g) fun d => ∃ ds, d = .tuple ds ∧ Q ds := fun b hb => by
  obtain ⟨ds, b', p, hb', e⟩ := h b hb
  refine ⟨.tuple ds, b', ⟨ds, rfl, p⟩, hb', ?_⟩
  unfold cTup
  rw [bnd_ok e]
  unfold mkTup
  rw [SH.datas_d]
  show (if small ds.length then some (Er.ok (Rv.d (.tuple ds)) _) else none) = _
  rw [if_pos (small_iff.mpr (by have := k ds p; rw [sizeLine_eq]; omega))]
section
variable {w o : Int} {ts : List Tr} {kd : PyData} {v7 : Sl}
structure CardOf (w o : Int) (x : Crd) : Prop where
  w : x.w = w
  o : x.o = o
  m : x.m = 7
  s : SideOk x.s
noncomputable abbrev t7 (w o many : Int) (ts : List Tr) (v6 v7 : Sl) : Rho := [.val (.int w), .val (.int o), .val (.int many), .val (.int 7), .own .free (.lst ts), v6, v7]
theorem side_dr {many : Int} {v6 : Sl} (hw : 0 ≤ w ∧ w ≤ 1) : Dr (t7 w o many ts v6 v7) (cBin subD (cFrz (nLst (aCons (cD (.str sBought)) (aCons (cD (.str sSold)) aNil)))) (cBin modD (cBin addD (cCall intD (aCons (cOf (cCmp gtD (cFrz (nCall [0] 2 fTake (aCons (cVar 0) (aCons (cD (.int 3)) aNil)))) (cD (.int 0)))) aNil)) (cVar 1)) (cD (.int 2)))) fun d => ∃ s, d = .str s ∧ SideOk s := by
  have d0 : Dr (t7 w o many ts v6 v7) (cFrz (nCall [0] 2 fTake (aCons (cVar 0) (aCons (cD (.int 3)) aNil)))) fun d => ∃ v, d = .int v ∧ 0 ≤ v ∧ v < 3 := Dr.tk1 (Dr.con rfl) (by decide) (by decide)
  have d1 := Dr.of (DrB.cmp (g := gtD) (Q := fun _ => True) d0 (Dr.con (P := (· = .int 0)) rfl) fun d e h1 h2 => by
    obtain ⟨v, rfl, _, _⟩ := h1
    subst h2
    exact ⟨_, rfl, trivial⟩)
  have d2 : Dr (t7 w o many ts v6 v7) (cCall intD (aCons (cOf (cCmp gtD (cFrz (nCall [0] 2 fTake (aCons (cVar 0) (aCons (cD (.int 3)) aNil)))) (cD (.int 0)))) aNil)) fun d => ∃ v, d = .int v ∧ 0 ≤ v ∧ v ≤ 1 := Dr.call d1 fun d h => by
    obtain ⟨b, rfl, _⟩ := h
    refine ⟨_, rfl, _, rfl, ?_⟩
    cases b <;> decide
  have d3 := Dr.bin (g := addD) (P := fun d => ∃ v, d = .int v) d2 (Dr.val (i := 0) (P := (· = .int w)) rfl rfl) fun d e h1 h2 => by
    obtain ⟨v, rfl, _, _⟩ := h1
    subst h2
    exact ⟨_, rfl, _, rfl⟩
  have d4 := Dr.bin (g := modD) (P := fun d => ∃ v : Int, d = .int v ∧ (v = 0 ∨ v = 1)) d3 (Dr.con (P := (· = .int 2)) rfl) fun d e h1 h2 => by
    obtain ⟨v, rfl⟩ := h1
    subst h2
    exact ⟨_, rfl, _, rfl, by omega⟩
  have l0 : Dr (t7 w o many ts v6 v7) (cFrz (nLst (aCons (cD (.str sBought)) (aCons (cD (.str sSold)) aNil)))) (· = .list [.str sBought, .str sSold]) := fun b hb => ⟨_, b, rfl, hb, rfl⟩
  exact Dr.bin l0 d4 fun d e h1 h2 => by
    subst h1
    obtain ⟨v, rfl, rfl | rfl⟩ := h2
    · exact ⟨_, rfl, _, rfl, .inl rfl⟩
    · exact ⟨_, rfl, _, rfl, .inr rfl⟩
theorem num_dr {ρt : Rho} {c : Int} : Dr ρt (cBin addD (cD (.int c)) (cFrz (nCall [0] 2 fTake (aCons (cVar 0) (aCons (cD (.int 3)) aNil))))) fun d => ∃ v, d = .int v := by
  have d0 : Dr ρt (cFrz (nCall [0] 2 fTake (aCons (cVar 0) (aCons (cD (.int 3)) aNil)))) fun d => ∃ v, d = .int v ∧ 0 ≤ v ∧ v < 3 := Dr.tk1 (Dr.con rfl) (by decide) (by decide)
  exact Dr.bin (Dr.con (P := (· = .int c)) rfl) d0 fun d e h1 h2 => by
    subst h1
    obtain ⟨v, rfl, _, _⟩ := h2
    exact ⟨_, rfl, _, rfl⟩
theorem card_dr {many : Int} {v6 : Sl} {s : Str} (hs : SideOk s) : Dr (t7 w o many ts v6 (.val (.str s))) (cTup (aCons (cVar 1) (aCons (cVar 2) (aCons (cVar 7) (aCons (cBin addD (cD (.int 100)) (cFrz (nCall [0] 2 fTake (aCons (cVar 0) (aCons (cD (.int 3)) aNil))))) (aCons (cBin addD (cD (.int 1)) (cFrz (nCall [0] 2 fTake (aCons (cVar 0) (aCons (cD (.int 3)) aNil))))) (aCons (cVar 4) aNil))))))) fun d => ∃ x : Crd, d = x.D ∧ CardOf w o x := by
  have a := DrA.cons (Dr.val (ρt := t7 w o many ts v6 (.val (.str s))) (i := 0) (P := (· = .int w)) rfl rfl) (DrA.cons (Dr.val (i := 1) (P := (· = .int o)) rfl rfl) (DrA.cons (Dr.val (i := 6) (P := (· = .str s)) rfl rfl) (DrA.cons (num_dr (c := 100)) (DrA.cons (num_dr (c := 1)) (DrA.cons (Dr.val (i := 3) (P := (· = .int 7)) rfl rfl) DrA.nil)))))
  refine (Dr_tup a fun ds h => ?_).mono fun d h => ?_
  · obtain ⟨_, _, rfl, _, _, _, rfl, _, _, _, rfl, _, _, _, rfl, _, _, _, rfl, _, _, _, rfl, _, rfl⟩ := h
    show (6 : Nat) ≤ 1000
    omega
  · obtain ⟨_, rfl, _, _, rfl, rfl, _, _, rfl, rfl, _, _, rfl, rfl, _, _, rfl, ⟨p, rfl⟩, _, _, rfl, ⟨c, rfl⟩, _, _, rfl, rfl, rfl⟩ := h
    exact ⟨⟨w, o, s, p, c, 7⟩, rfl, rfl, rfl, rfl, hs⟩
noncomputable abbrev e8 (b : Bag) (w o many : Int) (ts : List Tr) (v6 v7 : Sl) : Rho := .own .pin (bgT b) :: t7 w o many ts v6 v7
theorem one_run {b : Bag} {many : Int} {l : List Crd} (hb : BgOk b) (hw : 0 ≤ w ∧ w ≤ 1) (h7 : frB (some v7) = true) (hl : l.length ≤ 1000) :
    ∃ x b' w7, CardOf w o x ∧ BgOk b' ∧ frB (some w7) = true ∧ b__law_some_0 (e8 b w o many ((l.map Crd.D).map .dat) (.val kd) v7) = some (.nx (e8 b' w o many (((l ++ [x]).map Crd.D).map .dat) (.val kd) w7)) := by
  obtain ⟨d, b1, ⟨s, rfl, hs⟩, hb1, e1⟩ := (side_dr (o := o) (many := many) (ts := (l.map Crd.D).map .dat) (v6 := .val kd) (v7 := v7) hw).set (i := 6) h7 hb
  obtain ⟨d, b2, ⟨x, rfl, hx⟩, hb2, e2⟩ := card_dr (w := w) (o := o) (many := many) (ts := (l.map Crd.D).map .dat) (v6 := .val kd) hs b1 hb1
  refine ⟨x, b2, .val (.str s), hx, hb2, rfl, ?_⟩
  have k4 : nDat (cTup (aCons (cVar 1) (aCons (cVar 2) (aCons (cVar 7) (aCons (cBin addD (cD (.int 100)) (cFrz (nCall [0] 2 fTake (aCons (cVar 0) (aCons (cD (.int 3)) aNil))))) (aCons (cBin addD (cD (.int 1)) (cFrz (nCall [0] 2 fTake (aCons (cVar 0) (aCons (cD (.int 3)) aNil))))) (aCons (cVar 4) aNil))))))) (e8 b1 w o many ((l.map Crd.D).map .dat) (.val kd) (.val (.str s))) = some (.ok (.dat x.D) (e8 b2 w o many ((l.map Crd.D).map .dat) (.val kd) (.val (.str s)))) := by
    unfold nDat
    exact (bnd_ok e2).trans rfl
  have k5 := q_appD (T2 := [0, 0]) (i := 5) (ts := (l.map Crd.D).map .dat) (by rfl) k4 (by rfl) (small_iff.mpr (by rw [List.length_map, List.length_map, sizeLine_eq]; omega)) rfl
  refine (seq_nx e1).trans (k5.trans ?_)
  rw [List.map_append, List.map_append]
  rfl
theorem ones_run {many : Int} (hw : 0 ≤ w ∧ w ≤ 1) : ∀ (ks : List Nat) (b : Bag) (l : List Crd) (v6 v7 : Sl), BgOk b → frB (some v6) = true → frB (some v7) = true → l.length + ks.length ≤ 1000 → (∀ x ∈ l, CardOf w o x) →
    ∃ (l' : List Crd) (b' : Bag) (w6 w7 : Sl), (∀ x ∈ l', CardOf w o x) ∧ l'.length = l.length + ks.length ∧ BgOk b' ∧ loopF (gN 6) b__law_some_0 (ks.map fun k => .int (0 + (k : Nat))) (e8 b w o many ((l.map Crd.D).map .dat) v6 v7) = some (.nx (e8 b' w o many ((l'.map Crd.D).map .dat) w6 w7))
  | [], b, l, v6, v7, hb, h6, h7, _, hl => ⟨l, b, v6, v7, hl, rfl, hb, rfl⟩
  | k :: ks, b, l, v6, v7, hb, h6, h7, hk, hl => by
    rw [List.length_cons] at hk
    obtain ⟨x, b1, w7, hx, hb1, g7, e1⟩ := one_run (o := o) (kd := .int (0 + (k : Nat))) (many := many) (l := l) hb hw h7 (by omega)
    obtain ⟨l', b', x6, x7, g1, g2, g3, e2⟩ := ones_run hw ks b1 (l ++ [x]) (.val (.int (0 + (k : Nat)))) w7 hb1 rfl g7 (by rw [List.length_append, List.length_singleton]; omega) (fun y hy => by
      rcases List.mem_append.mp hy with z | z
      · exact hl y z
      · rw [List.mem_singleton.mp z]; exact hx)
    refine ⟨l', b', x6, x7, g1, by rw [g2, List.length_append, List.length_singleton, List.length_cons]; omega, g3, ?_⟩
    have g : gN 6 (.int (0 + (k : Nat))) (e8 b w o many ((l.map Crd.D).map .dat) v6 v7) = some (e8 b w o many ((l.map Crd.D).map .dat) (.val (.int (0 + (k : Nat)))) v7) := setSl_f (i := 6) h6
    rw [List.map_cons, loop_cons g e1]
    exact e2
theorem some_run {b : Bag} {many : Nat} (hb : BgOk b) (hw : 0 ≤ w ∧ w ≤ 1) (hm : many ≤ 1000) :
    ∃ (l : List Crd) (b' : Bag), (∀ x ∈ l, CardOf w o x) ∧ l.length = many ∧ BgOk b' ∧ F__law_some [.own .pin (bgT b), .val (.int w), .val (.int o), .val (.int (many : Nat)), .val (.int 7)] = some (.ret (.lst ((l.map Crd.D).map .dat)), [.own .pin (bgT b'), .val (.int w), .val (.int o), .val (.int (many : Nat)), .val (.int 7)]) := by
  obtain ⟨l, b', w6, w7, g1, g2, g3, e2⟩ := ones_run (o := o) (many := (many : Nat)) hw (List.range many) b [] .no .no hb rfl rfl (by rw [List.length_range, List.length_nil]; omega) (fun _ h => nomatch h)
  refine ⟨l, b', g1, by rw [g2, List.length_range, List.length_nil]; omega, g3, ?_⟩
  have s1 : sSetN 5 (nLst aNil) (.own .pin (bgT b) :: [.val (.int w), .val (.int o), .val (.int (many : Nat)), .val (.int 7), .no, .no, .no]) = some (.nx (e8 b w o (many : Nat) [] .no .no)) := rfl
  have s2 := for_ok (g := gN 6) (b := b__law_some_0) (r_rng (j := 3) (ρ := e8 b w o (many : Nat) [] .no .no) (n := many) rfl (by omega)) e2
  have fin : g__law_some (entry 8 [.own .pin (bgT b), .val (.int w), .val (.int o), .val (.int (many : Nat)), .val (.int 7)]) = some (.rt (.lst ((l.map Crd.D).map .dat)) [.own .pin (bgT b'), .val (.int w), .val (.int o), .val (.int (many : Nat)), .val (.int 7), .no, w6, w7]) := by
    refine (seq_nx s1).trans ((seq_nx s2).trans ?_)
    rfl
  exact (run_rt fin).trans rfl
end
end K09

end

section
set_option Elab.async false
set_option linter.all false
set_option maxRecDepth 100000
set_option maxHeartbeats 2000000
namespace K09
open PySem PySem.Spec PyProof.Rows L2 VL SM SN SP SH
theorem ne_same {n : Nat} {d : PyData} (h : Sh n d) (hn : n ≤ 60) : neD d d = some false := by
  show (if SeqAt.shaped d && SeqAt.shaped d then some (!PyData.eqv d d) else none) = _
  rw [h.ok (by omega), eqv_self (h.ok (by omega))]
  rfl
theorem sh_ls {l : List Crd} (h : ∀ x ∈ l, SideOk x.s) : Sh 2 (lsD l) := Sh.list fun d hd => by
  obtain ⟨x, hx, rfl⟩ := List.mem_map.mp hd
  exact sh_crd (h x hx)
theorem tkR {b : Bag} {j : Nat} {Ts : List Nat} {n : Int} {fk : M Rv} {ρ : Rho} (hb : BgOk b) (n0 : 0 < n) (n1 : n ≤ 1000000000) (h8 : ρ[j]? = some (.own .free (bgT b))) (hT : Ts.contains j = true) (hk : fk ρ = some (.ok (.d (.int n)) ρ)) : ∃ v b', BgOk b' ∧ 0 ≤ v ∧ v < n ∧ cFrz (nCall Ts 2 fTake (aCons (cVar j) (aCons fk aNil))) ρ = some (.ok (.d (.int v)) (ρ.set j (.own .free (bgT b')))) := by
  obtain ⟨v, b', hb', v0, v1, e⟩ := e_tk hb n0 n1
  rw [← tkF] at e
  have fs : (aCons (cVar j) (aCons fk aNil)) ρ = some (.ok (.o j :: [PyData.int n].map .d) ρ) := by
    have c : cVar j ρ = some (.ok (.o j) ρ) := by
      rw [VR.ap_cVar, h8]
      rfl
    unfold aCons
    rw [bnd_ok c]
    have q : (bnd fk fun x => bnd aNil fun xs => VL.ret (x :: xs)) ρ = some (.ok [.d (.int n)] ρ) := by
      rw [bnd_ok hk]
      rfl
    rw [bnd_ok q]
    rfl
  exact ⟨v, b', hb', v0, v1, r_frz (t := .dat (.int v)) ((bnd_ok fs).trans (callN_m (j := j) (Ts := Ts) (m0 := 2) h8 rfl hT e)) rfl⟩
theorem someF {b : Bag} {ds : List PyData} : F__law_some (.own .free (bgT b) :: ds.map .val) = F__law_some (.own .pin (bgT b) :: ds.map .val) := rfl
section
variable {scr kd : PyData} {v2 v3 v4 v5 v6 v7 v8 v9 : Sl} {os ts : List Crd} {b : Bag}
noncomputable abbrev eL (scr kd : PyData) (v2 v3 v4 v5 v6 v7 v8 v9 : Sl) : Rho := [.val scr, .val kd, v2, v3, v4, v5, v6, v7, v8, v9]
noncomputable abbrev bgS (b : Bag) : Sl := .own .free (bgT b)
theorem drawn {most w o : Int} {b : Bag} {v4 v5 v6 v7 v8 v9 : Sl} (hb : BgOk b) (hm : 0 < most ∧ most ≤ 8) (hw : 0 ≤ w ∧ w ≤ 1) :
    ∃ (l : List Crd) (b' : Bag), (∀ x ∈ l, CardOf w o x) ∧ l.length ≤ 7 ∧ BgOk b' ∧
      cFrz (nCall [2] 5 F__law_some (aCons (cVar 2) (aCons (cD (.int w)) (aCons (cD (.int o)) (aCons (cFrz (nCall [2, 3] 2 fTake (aCons (cVar 2) (aCons (cVar 3) aNil)))) (aCons (cD (.int 7)) aNil)))))) (eL scr kd (bgS b) (.val (.int most)) v4 v5 v6 v7 v8 v9) = some (.ok (.d (lsD l)) (eL scr kd (bgS b') (.val (.int most)) v4 v5 v6 v7 v8 v9)) := by
  obtain ⟨v, b1, hb1, v0, v1, e1⟩ := tkR (j := 2) (Ts := [2, 3]) (fk := cVar 3) (ρ := eL scr kd (bgS b) (.val (.int most)) v4 v5 v6 v7 v8 v9) hb hm.1 (by omega) rfl rfl (r_var rfl)
  obtain ⟨n, rfl⟩ : ∃ n : Nat, v = (n : Nat) := ⟨v.toNat, by omega⟩
  obtain ⟨l, b2, g1, g2, hb2, e2⟩ := some_run (w := w) (o := o) (many := n) hb1 hw (by omega)
  refine ⟨l, b2, g1, by omega, hb2, ?_⟩
  have e2' : F__law_some (.own .free (bgT b1) :: [PyData.int w, .int o, .int (n : Nat), .int 7].map .val) = some (.ret (.lst ((l.map Crd.D).map .dat)), [.own .pin (bgT b2), .val (.int w), .val (.int o), .val (.int (n : Nat)), .val (.int 7)]) := someF.trans e2
  have fs : aCons (cVar 2) (aCons (cD (.int w)) (aCons (cD (.int o)) (aCons (cFrz (nCall [2, 3] 2 fTake (aCons (cVar 2) (aCons (cVar 3) aNil)))) (aCons (cD (.int 7)) aNil)))) (eL scr kd (bgS b) (.val (.int most)) v4 v5 v6 v7 v8 v9) = some (.ok (.o 2 :: [PyData.int w, .int o, .int (n : Nat), .int 7].map .d) (eL scr kd (bgS b1) (.val (.int most)) v4 v5 v6 v7 v8 v9)) := by
    have e1' : cFrz (nCall [2, 3] 2 fTake (aCons (cVar 2) (aCons (cVar 3) aNil))) (eL scr kd (bgS b) (.val (.int most)) v4 v5 v6 v7 v8 v9) = some (.ok (.d (.int (n : Nat))) (eL scr kd (bgS b1) (.val (.int most)) v4 v5 v6 v7 v8 v9)) := e1
    generalize cFrz (nCall [2, 3] 2 fTake (aCons (cVar 2) (aCons (cVar 3) aNil))) = g1 at e1' ⊢
    simp! only [setSl, List.replicate, pinS, Md.unb, VR.ap_fld1, VR.ap_pFld, VR.ap_pKey, VR.ap_keyT1, e1', cv_bg]
  exact r_frz (t := .lst ((l.map Crd.D).map .dat)) ((bnd_ok fs).trans (callN_m (j := 2) (Ts := [2]) (m0 := 5) rfl rfl rfl e2')) toD_ds
theorem app_t {s0 s1 s4 s5 s6 : Sl} {c : PyData} {L : List Tr} (h : small (L.length + 1) = true) : sApp [] (pIx [] (pVar 8) (cD (.int 1))) (nDat (cD .none)) [s0, s1, v2, v3, s4, s5, s6, v7, .own .free (.tup [.dat c, .lst L]), v9] = some (.nx [s0, s1, v2, v3, s4, s5, s6, v7, .own .free (.tup [.dat c, .lst (L ++ [.dat .none])]), v9]) := by
  have i0 : ixN 2 1 = some 1 := by decide
  simp! only [setSl, List.replicate, pinS, Md.unb, VR.ap_fld1, VR.ap_pFld, VR.ap_pKey, VR.ap_keyT1, h, i0]
  show (if small (L.length + 1) = true then some (Out.nx [s0, s1, v2, v3, s4, s5, s6, v7, .own .free (.tup [.dat c, .lst (L ++ [.dat .none])]), v9]) else none) = _
  rw [if_pos h]
theorem turn_ok (H : Cds os ts) (h8 : frB (some v8) = true) : ∃ w8, frB (some w8) = true ∧ b_law_0 (eL scr kd v2 v3 (.val (lsD os)) (.val (lsD ts)) (.val (.tuple [lsD os, lsD ts])) v7 v8 v9) = some (.nx (eL scr kd v2 v3 (.val (lsD os)) (.val (lsD ts)) (.val (.tuple [lsD os, lsD ts])) v7 w8 v9)) := by
  obtain ⟨o1, f1⟩ := asked_ok H
  obtain ⟨o2, f2⟩ := least_run H
  generalize hr : fit (qn os ts) os.length 0 (List.range ts.length) = r at f1 f2
  have lr : r.2.length ≤ 1000 := by
    rw [← hr]
    exact Nat.le_trans (fit_len _ List.nodup_range) (by have := H.lo; omega)
  have sT : Sh 3 (.tuple [lsD os, lsD ts]) := Sh.tuple fun d hd => by
    simp only [List.mem_cons, List.not_mem_nil, or_false] at hd
    rcases hd with rfl | rfl
    · exact sh_ls H.so
    · exact sh_ls H.st
  have n1 := ne_same sT (by omega)
  have n2 := ne_same (sh_L r) (by omega)
  have s1 : sSetN 8 (nCall [] 2 F__law_asked (aCons (cBin subD (cVar 6) (cD (.int 0))) (aCons (cBin subD (cVar 6) (cD (.int 1))) aNil))) (eL scr kd v2 v3 (.val (lsD os)) (.val (lsD ts)) (.val (.tuple [lsD os, lsD ts])) v7 v8 v9) = some (.nx (eL scr kd v2 v3 (.val (lsD os)) (.val (lsD ts)) (.val (.tuple [lsD os, lsD ts])) v7 (.own .free (foT r)) v9)) := by
    have a0 : cBin subD (cVar 6) (cD (.int 0)) (eL scr kd v2 v3 (.val (lsD os)) (.val (lsD ts)) (.val (.tuple [lsD os, lsD ts])) v7 v8 v9) = some (.ok (.d (lsD os)) (eL scr kd v2 v3 (.val (lsD os)) (.val (lsD ts)) (.val (.tuple [lsD os, lsD ts])) v7 v8 v9)) := r_bin (r_var rfl) rfl rfl
    have a1 : cBin subD (cVar 6) (cD (.int 1)) (eL scr kd v2 v3 (.val (lsD os)) (.val (lsD ts)) (.val (.tuple [lsD os, lsD ts])) v7 v8 v9) = some (.ok (.d (lsD ts)) (eL scr kd v2 v3 (.val (lsD os)) (.val (lsD ts)) (.val (.tuple [lsD os, lsD ts])) v7 v8 v9)) := r_bin (r_var rfl) rfl rfl
    have fs : aCons (cBin subD (cVar 6) (cD (.int 0))) (aCons (cBin subD (cVar 6) (cD (.int 1))) aNil) (eL scr kd v2 v3 (.val (lsD os)) (.val (lsD ts)) (.val (.tuple [lsD os, lsD ts])) v7 v8 v9) = some (.ok ([lsD os, lsD ts].map .d) (eL scr kd v2 v3 (.val (lsD os)) (.val (lsD ts)) (.val (.tuple [lsD os, lsD ts])) v7 v8 v9)) := by
      unfold aCons
      rw [bnd_ok a0, bnd_ok ((bnd_ok a1).trans rfl)]
      rfl
    exact r_setN (i := 8) ((bnd_ok fs).trans (callN_d (m0 := 2) rfl f1)) h8
  have td : Tr.toD (foT r) = some (rL r) := by
    show (match Tr.toD (.dat (.int (r.1 : Nat))), (match Tr.toD (.lst ((r.2.map rowD).map .dat)), (some [] : Option (List PyData)) with
      | some d, some ds => some (d :: ds)
      | _, _ => none) with
      | some d, some ds => some (d :: ds)
      | _, _ => none).map PyData.tuple = _
    rw [toD_ds]
    rfl
  have c1 : cIsiP .tuple (pVar 8) (eL scr kd v2 v3 (.val (lsD os)) (.val (lsD ts)) (.val (.tuple [lsD os, lsD ts])) v7 (.own .free (foT r)) v9) = some (.ok (.d (.bool true)) (eL scr kd v2 v3 (.val (lsD os)) (.val (lsD ts)) (.val (.tuple [lsD os, lsD ts])) v7 (.own .free (foT r)) v9)) := by
    unfold cIsiP
    rw [bnd_ok (p_own (i := 8) (m := .free) rfl), t_own (i := 8) (m := .free) rfl]
    show (match Tr.toD (foT r) with
      | some d => (match isiD .tuple d with
        | some b => some (Er.ok (Rv.d (.bool b)) (eL scr kd v2 v3 (.val (lsD os)) (.val (lsD ts)) (.val (.tuple [lsD os, lsD ts])) v7 (.own .free (foT r)) v9))
        | none => none)
      | none => none) = _
    rw [td]
    rfl
  have c2 : cFrz (nCall [4, 5] 2 F__law_least (aCons (cVar 4) (aCons (cVar 5) aNil))) (eL scr kd v2 v3 (.val (lsD os)) (.val (lsD ts)) (.val (.tuple [lsD os, lsD ts])) v7 (.own .free (foT r)) v9) = some (.ok (.d (rL r)) (eL scr kd v2 v3 (.val (lsD os)) (.val (lsD ts)) (.val (.tuple [lsD os, lsD ts])) v7 (.own .free (foT r)) v9)) := by
    have fs : aCons (cVar 4) (aCons (cVar 5) aNil) (eL scr kd v2 v3 (.val (lsD os)) (.val (lsD ts)) (.val (.tuple [lsD os, lsD ts])) v7 (.own .free (foT r)) v9) = some (.ok ([lsD os, lsD ts].map .d) (eL scr kd v2 v3 (.val (lsD os)) (.val (lsD ts)) (.val (.tuple [lsD os, lsD ts])) v7 (.own .free (foT r)) v9)) := rfl
    exact r_frz ((bnd_ok fs).trans (callN_d (m0 := 2) rfl f2)) rfl
  have c3 : cCmpL neD [4, 5] (pVar 8) (cFrz (nCall [4, 5] 2 F__law_least (aCons (cVar 4) (aCons (cVar 5) aNil)))) (eL scr kd v2 v3 (.val (lsD os)) (.val (lsD ts)) (.val (.tuple [lsD os, lsD ts])) v7 (.own .free (foT r)) v9) = some (.ok false (eL scr kd v2 v3 (.val (lsD os)) (.val (lsD ts)) (.val (.tuple [lsD os, lsD ts])) v7 (.own .free (foT r)) v9)) := by
    unfold cCmpL
    rw [bnd_ok (p_own (i := 8) (m := .free) rfl), bnd_ok c2, t_own (i := 8) (m := .free) rfl]
    show (match Tr.toD (foT r), some (rL r) with
      | some a, some b => (match neD a b with
        | some z => some (Er.ok z (eL scr kd v2 v3 (.val (lsD os)) (.val (lsD ts)) (.val (.tuple [lsD os, lsD ts])) v7 (.own .free (foT r)) v9))
        | none => none)
      | _, _ => none) = _
    rw [td]
    simp only
    rw [n2]
  have c4 : cCmp neD (cVar 6) (cTup (aCons (cVar 4) (aCons (cVar 5) aNil))) (eL scr kd v2 v3 (.val (lsD os)) (.val (lsD ts)) (.val (.tuple [lsD os, lsD ts])) v7 (.own .free (foT r)) v9) = some (.ok false (eL scr kd v2 v3 (.val (lsD os)) (.val (lsD ts)) (.val (.tuple [lsD os, lsD ts])) v7 (.own .free (foT r)) v9)) := by
    have ct : cTup (aCons (cVar 4) (aCons (cVar 5) aNil)) (eL scr kd v2 v3 (.val (lsD os)) (.val (lsD ts)) (.val (.tuple [lsD os, lsD ts])) v7 (.own .free (foT r)) v9) = some (.ok (.d (.tuple [lsD os, lsD ts])) (eL scr kd v2 v3 (.val (lsD os)) (.val (lsD ts)) (.val (.tuple [lsD os, lsD ts])) v7 (.own .free (foT r)) v9)) := rfl
    exact r_cmp (r_var rfl) ct n1
  have s2 : sIf (cOr (cNot (cTest (cIsiP .tuple (pVar 8)))) (cOr (cCmpL neD [4, 5] (pVar 8) (cFrz (nCall [4, 5] 2 F__law_least (aCons (cVar 4) (aCons (cVar 5) aNil))))) (cCmp neD (cVar 6) (cTup (aCons (cVar 4) (aCons (cVar 5) aNil)))))) (sRet (nDat (cD (.bool false)))) sNil (eL scr kd v2 v3 (.val (lsD os)) (.val (lsD ts)) (.val (.tuple [lsD os, lsD ts])) v7 (.own .free (foT r)) v9) = some (.nx (eL scr kd v2 v3 (.val (lsD os)) (.val (lsD ts)) (.val (.tuple [lsD os, lsD ts])) v7 (.own .free (foT r)) v9)) :=
    r_ifF (r_orFF (r_not (r_test c1)) (r_orFF c3 c4))
  have sm : small (((r.2.map rowD).map Tr.dat).length + 1) = true := small_iff.mpr (by rw [List.length_map, List.length_map, sizeLine_eq]; omega)
  have s3 : sApp [] (pIx [] (pVar 8) (cD (.int 1))) (nDat (cD .none)) (eL scr kd v2 v3 (.val (lsD os)) (.val (lsD ts)) (.val (.tuple [lsD os, lsD ts])) v7 (.own .free (foT r)) v9) = some (.nx (eL scr kd v2 v3 (.val (lsD os)) (.val (lsD ts)) (.val (.tuple [lsD os, lsD ts])) v7 (.own .free (.tup [.dat (.int (r.1 : Nat)), .lst ((r.2.map rowD).map .dat ++ [.dat .none])])) v9)) := app_t sm
  exact ⟨_, rfl, (seq_nx s1).trans ((seq_nx s2).trans s3)⟩
theorem turns_ok (H : Cds os ts) : ∀ (ks : List Nat) (v7 v8 : Sl), frB (some v7) = true → frB (some v8) = true → ∃ w7 w8, frB (some w7) = true ∧ frB (some w8) = true ∧
    loopF (gN 7) b_law_0 (ks.map fun k => .int (0 + (k : Nat))) (eL scr kd v2 v3 (.val (lsD os)) (.val (lsD ts)) (.val (.tuple [lsD os, lsD ts])) v7 v8 v9) = some (.nx (eL scr kd v2 v3 (.val (lsD os)) (.val (lsD ts)) (.val (.tuple [lsD os, lsD ts])) w7 w8 v9))
  | [], v7, v8, h7, h8 => ⟨v7, v8, h7, h8, rfl⟩
  | k :: ks, v7, v8, h7, h8 => by
    obtain ⟨x8, g8, e1⟩ := turn_ok (scr := scr) (kd := kd) (v2 := v2) (v3 := v3) (v7 := .val (.int (0 + (k : Nat)))) (v9 := v9) H h8
    obtain ⟨w7, w8, f7, f8, e2⟩ := turns_ok H ks (.val (.int (0 + (k : Nat)))) x8 rfl g8
    refine ⟨w7, w8, f7, f8, ?_⟩
    have g : gN 7 (.int (0 + (k : Nat))) (eL scr kd v2 v3 (.val (lsD os)) (.val (lsD ts)) (.val (.tuple [lsD os, lsD ts])) v7 v8 v9) = some (eL scr kd v2 v3 (.val (lsD os)) (.val (lsD ts)) (.val (.tuple [lsD os, lsD ts])) (.val (.int (0 + (k : Nat)))) v8 v9) := setSl_f (i := 7) h7
    rw [List.map_cons, loop_cons g e1]
    exact e2
noncomputable def odds (v : Nat) : Crd := [⟨2, 0, sSold, 100, 1, 7⟩, ⟨1, 0, sSold, 100, 1, 8⟩, ⟨0, 1, sBought, 100, 1, 7⟩].getD v ⟨2, 0, sSold, 100, 1, 7⟩
theorem odds_no {x : Crd} (h : CardOf 0 1 x) (v : Nat) : ¬ Bel x (odds v) := by
  intro z
  obtain ⟨h1, h2, h3⟩ := z
  rw [h.w] at h1
  rw [h.o] at h2
  rw [h.m] at h3
  rcases v with _ | _ | _ | v
  · exact absurd h2 (by decide)
  · exact absurd h3 (by decide)
  · exact absurd h1 (by decide)
  · exact absurd (show (1 : Int) = 2 from h2) (by decide)
noncomputable abbrev oddE : M Rv := cBin subD (cFrz (nLst (aCons (cTup (aCons (cD (.int 2)) (aCons (cD (.int 0)) (aCons (cD (.str sSold)) (aCons (cD (.int 100)) (aCons (cD (.int 1)) (aCons (cD (.int 7)) aNil))))))) (aCons (cTup (aCons (cD (.int 1)) (aCons (cD (.int 0)) (aCons (cD (.str sSold)) (aCons (cD (.int 100)) (aCons (cD (.int 1)) (aCons (cD (.int 8)) aNil))))))) (aCons (cTup (aCons (cD (.int 0)) (aCons (cD (.int 1)) (aCons (cD (.str sBought)) (aCons (cD (.int 100)) (aCons (cD (.int 1)) (aCons (cD (.int 7)) aNil))))))) aNil))))) (cFrz (nCall [2] 2 fTake (aCons (cVar 2) (aCons (cD (.int 3)) aNil))))
theorem odd_run (hb : BgOk b) (h9 : frB (some v9) = true) : ∃ v b', BgOk b' ∧ sSet 9 oddE (eL scr kd (bgS b) v3 v4 v5 v6 v7 v8 v9) = some (.nx (eL scr kd (bgS b') v3 v4 v5 v6 v7 v8 (.val (odds v).D))) := by
  obtain ⟨v, b1, hb1, v0, v1, e1⟩ := tkR (j := 2) (Ts := [2]) (n := 3) (fk := cD (.int 3)) (ρ := eL scr kd (bgS b) v3 v4 v5 v6 v7 v8 v9) hb (by decide) (by decide) rfl rfl rfl
  obtain ⟨n, rfl⟩ : ∃ n : Nat, v = (n : Nat) := ⟨v.toNat, by omega⟩
  refine ⟨n, b1, hb1, ?_⟩
  have l0 : cFrz (nLst (aCons (cTup (aCons (cD (.int 2)) (aCons (cD (.int 0)) (aCons (cD (.str sSold)) (aCons (cD (.int 100)) (aCons (cD (.int 1)) (aCons (cD (.int 7)) aNil))))))) (aCons (cTup (aCons (cD (.int 1)) (aCons (cD (.int 0)) (aCons (cD (.str sSold)) (aCons (cD (.int 100)) (aCons (cD (.int 1)) (aCons (cD (.int 8)) aNil))))))) (aCons (cTup (aCons (cD (.int 0)) (aCons (cD (.int 1)) (aCons (cD (.str sBought)) (aCons (cD (.int 100)) (aCons (cD (.int 1)) (aCons (cD (.int 7)) aNil))))))) aNil)))) (eL scr kd (bgS b) v3 v4 v5 v6 v7 v8 v9) =
      some (.ok (.d (.list [(odds 0).D, (odds 1).D, (odds 2).D])) (eL scr kd (bgS b) v3 v4 v5 v6 v7 v8 v9)) := rfl
  have sb : subD (.list [(odds 0).D, (odds 1).D, (odds 2).D]) (.int (n : Nat)) = some (odds n).D := by
    refine L2.atI_nat ?_
    have : n = 0 ∨ n = 1 ∨ n = 2 := by omega
    rcases this with rfl | rfl | rfl <;> rfl
  have e1' : cFrz (nCall [2] 2 fTake (aCons (cVar 2) (aCons (cD (.int 3)) aNil))) (eL scr kd (bgS b) v3 v4 v5 v6 v7 v8 v9) = some (.ok (.d (.int (n : Nat))) (eL scr kd (bgS b1) v3 v4 v5 v6 v7 v8 v9)) := e1
  exact r_set (i := 9) (r_bin l0 e1' sb) h9
theorem ne_u : neD (.str s_x556e6c696b652b) (.str s_x556e6c696b652b) = some false := by decide +kernel
theorem unlike_run (H : Cds os ts) (ho : ∀ x ∈ os, CardOf 0 1 x) (v : Nat) : sIf (cAnd (cCmp neD (cVar 4) (cFrz (nLst aNil))) (cCmp neD (cFrz (nCall [4] 2 F__law_asked (aCons (cVar 4) (aCons (cBin addD (cCut (cVar 5) oNone (oSome (cD (.int 6)))) (cFrz (nLst (aCons (cVar 9) aNil)))) aNil)))) (cD (.str s_x556e6c696b652b)))) (sRet (nDat (cD (.bool false)))) sNil (eL scr kd v2 v3 (.val (lsD os)) (.val (lsD ts)) v6 v7 v8 (.val (odds v).D)) =
    some (.nx (eL scr kd v2 v3 (.val (lsD os)) (.val (lsD ts)) v6 v7 v8 (.val (odds v).D))) := by
  have n0 : cFrz (nLst aNil) (eL scr kd v2 v3 (.val (lsD os)) (.val (lsD ts)) v6 v7 v8 (.val (odds v).D)) = some (.ok (.d (.list [])) (eL scr kd v2 v3 (.val (lsD os)) (.val (lsD ts)) v6 v7 v8 (.val (odds v).D))) := rfl
  cases os with
  | nil =>
    have c : cCmp neD (cVar 4) (cFrz (nLst aNil)) (eL scr kd v2 v3 (.val (lsD [])) (.val (lsD ts)) v6 v7 v8 (.val (odds v).D)) = some (.ok false (eL scr kd v2 v3 (.val (lsD [])) (.val (lsD ts)) v6 v7 v8 (.val (odds v).D))) := r_cmp (r_var rfl) n0 (ne_same (n := 2) (sh_ls (l := []) (fun _ h => nomatch h)) (by decide))
    exact r_ifF (r_andF c)
  | cons x l =>
    have ne : neD (lsD (x :: l)) (.list []) = some true := by
      have s1 := (sh_ls (l := x :: l) H.so).ok
      have s2 : SeqAt.shaped (.list []) = true := (Sh.list (n := 0) (xs := []) (fun _ h => nomatch h)).ok
      show (if SeqAt.shaped (lsD (x :: l)) && SeqAt.shaped (.list []) then some (!PyData.eqv (lsD (x :: l)) (.list [])) else none) = _
      rw [s1, s2]
      rfl
    have c : cCmp neD (cVar 4) (cFrz (nLst aNil)) (eL scr kd v2 v3 (.val (lsD (x :: l))) (.val (lsD ts)) v6 v7 v8 (.val (odds v).D)) = some (.ok true (eL scr kd v2 v3 (.val (lsD (x :: l))) (.val (lsD ts)) v6 v7 v8 (.val (odds v).D))) := r_cmp (r_var rfl) n0 ne
    have lt := H.lt
    obtain ⟨outs, e⟩ := asked_ex (x := x) (l := l) (ts := ts.take 6 ++ [odds v]) ⟨odds v, by simp, odds_no (ho x List.mem_cons_self) v⟩ (by rw [List.length_append, List.length_take, List.length_singleton]; omega)
    have cu : cutD (lsD ts) none (some 6) = some (lsD (ts.take 6)) := by
      show some (PyData.list (((ts.map Crd.D).drop (HT.sIx (ts.map Crd.D).length 0 none)).take (HT.sIx (ts.map Crd.D).length (ts.map Crd.D).length (some ((6 : Nat) : Int)) - HT.sIx (ts.map Crd.D).length 0 none))) = _
      rw [HT.sIx_none, HT.sIx_nat, List.drop_zero, Nat.sub_zero]
      congr 2
      show (ts.map Crd.D).take (min 6 (ts.map Crd.D).length) = (ts.take 6).map Crd.D
      rw [List.map_take]
      by_cases h : 6 ≤ (ts.map Crd.D).length
      · rw [Nat.min_eq_left h]
      · rw [Nat.min_eq_right (by omega), List.take_length, List.take_of_length_le (by omega)]
    have k1 : cCut (cVar 5) oNone (oSome (cD (.int 6))) (eL scr kd v2 v3 (.val (lsD (x :: l))) (.val (lsD ts)) v6 v7 v8 (.val (odds v).D)) = some (.ok (.d (lsD (ts.take 6))) (eL scr kd v2 v3 (.val (lsD (x :: l))) (.val (lsD ts)) v6 v7 v8 (.val (odds v).D))) := by
      generalize lsD (ts.take 6) = z at cu ⊢
      generalize lsD ts = z1 at cu ⊢
      simp! only [setSl, List.replicate, pinS, Md.unb, VR.ap_fld1, VR.ap_pFld, VR.ap_pKey, VR.ap_keyT1, cu]
    have ad : addD (lsD (ts.take 6)) (.list [(odds v).D]) = some (lsD (ts.take 6 ++ [odds v])) := by
      show (if small (((ts.take 6).map Crd.D).length + 1) = true then some (PyData.list ((ts.take 6).map Crd.D ++ [(odds v).D])) else none) = _
      rw [if_pos (small_iff.mpr (by rw [List.length_map, List.length_take, sizeLine_eq]; omega))]
      unfold lsD
      rw [List.map_append]
      rfl
    have k2 : cBin addD (cCut (cVar 5) oNone (oSome (cD (.int 6)))) (cFrz (nLst (aCons (cVar 9) aNil))) (eL scr kd v2 v3 (.val (lsD (x :: l))) (.val (lsD ts)) v6 v7 v8 (.val (odds v).D)) = some (.ok (.d (lsD (ts.take 6 ++ [odds v]))) (eL scr kd v2 v3 (.val (lsD (x :: l))) (.val (lsD ts)) v6 v7 v8 (.val (odds v).D))) := r_bin (e := .list [(odds v).D]) k1 rfl ad
    have fs : aCons (cVar 4) (aCons (cBin addD (cCut (cVar 5) oNone (oSome (cD (.int 6)))) (cFrz (nLst (aCons (cVar 9) aNil)))) aNil) (eL scr kd v2 v3 (.val (lsD (x :: l))) (.val (lsD ts)) v6 v7 v8 (.val (odds v).D)) = some (.ok ([lsD (x :: l), lsD (ts.take 6 ++ [odds v])].map .d) (eL scr kd v2 v3 (.val (lsD (x :: l))) (.val (lsD ts)) v6 v7 v8 (.val (odds v).D))) := by
      generalize cBin addD (cCut (cVar 5) oNone (oSome (cD (.int 6)))) (cFrz (nLst (aCons (cVar 9) aNil))) = g2 at k2 ⊢
      generalize lsD (ts.take 6 ++ [odds v]) = z at k2 ⊢
      simp! only [setSl, List.replicate, pinS, Md.unb, VR.ap_fld1, VR.ap_pFld, VR.ap_pKey, VR.ap_keyT1, k2]
    have k3 : cFrz (nCall [4] 2 F__law_asked (aCons (cVar 4) (aCons (cBin addD (cCut (cVar 5) oNone (oSome (cD (.int 6)))) (cFrz (nLst (aCons (cVar 9) aNil)))) aNil))) (eL scr kd v2 v3 (.val (lsD (x :: l))) (.val (lsD ts)) v6 v7 v8 (.val (odds v).D)) = some (.ok (.d (.str s_x556e6c696b652b)) (eL scr kd v2 v3 (.val (lsD (x :: l))) (.val (lsD ts)) v6 v7 v8 (.val (odds v).D))) := r_frz ((bnd_ok fs).trans (callN_d (m0 := 2) rfl e)) rfl
    exact r_ifF (r_andT c (r_cmp k3 rfl ne_u))
theorem cell {ns : List Int} {k : Nat} (hk : k ≤ 40) (h2 : frB (some v2) = true) (h3 : frB (some v3) = true) (h4 : frB (some v4) = true) (h5 : frB (some v5) = true) (h6 : frB (some v6) = true) (h7 : frB (some v7) = true) (h8 : frB (some v8) = true) (h9 : frB (some v9) = true) :
    ∃ w2 w3 w4 w5 w6 w7 w8 w9, FrL [w2, w3, w4, w5, w6, w7, w8, w9] ∧ b_law_1 (eL (scrD ns) (.int (k : Nat)) v2 v3 v4 v5 v6 v7 v8 v9) = some (.nx (eL (scrD ns) (.int (k : Nat)) w2 w3 w4 w5 w6 w7 w8 w9)) := by
  obtain ⟨b0, o0, hb0, e0⟩ := e_bag (ns := ns) hk
  have s0 : sSetN 2 (nCall [0, 1] 2 fBag (aCons (cVar 0) (aCons (cVar 1) aNil))) (eL (scrD ns) (.int (k : Nat)) v2 v3 v4 v5 v6 v7 v8 v9) = some (.nx (eL (scrD ns) (.int (k : Nat)) (bgS b0) v3 v4 v5 v6 v7 v8 v9)) := by
    have fs : aCons (cVar 0) (aCons (cVar 1) aNil) (eL (scrD ns) (.int (k : Nat)) v2 v3 v4 v5 v6 v7 v8 v9) = some (.ok ([scrD ns, .int (k : Nat)].map .d) (eL (scrD ns) (.int (k : Nat)) v2 v3 v4 v5 v6 v7 v8 v9)) := rfl
    exact r_setN (i := 2) ((bnd_ok fs).trans (callN_d (m0 := 2) rfl e0)) h2
  obtain ⟨v, b1, hb1, v0, v1, t1⟩ := tkR (j := 2) (Ts := [2]) (n := 4) (fk := cD (.int 4)) (ρ := eL (scrD ns) (.int (k : Nat)) (bgS b0) v3 v4 v5 v6 v7 v8 v9) hb0 (by decide) (by decide) rfl rfl rfl
  obtain ⟨n, rfl⟩ : ∃ n : Nat, v = (n : Nat) := ⟨v.toNat, by omega⟩
  obtain ⟨most, hm0, hm1, hm⟩ : ∃ most : Int, 0 < most ∧ most ≤ 8 ∧ subD (.list [.int 5, .int 5, .int 5, .int 8]) (.int (n : Nat)) = some (.int most) := by
    have : n = 0 ∨ n = 1 ∨ n = 2 ∨ n = 3 := by omega
    rcases this with rfl | rfl | rfl | rfl
    · exact ⟨5, by decide, by decide, L2.atI_nat rfl⟩
    · exact ⟨5, by decide, by decide, L2.atI_nat rfl⟩
    · exact ⟨5, by decide, by decide, L2.atI_nat rfl⟩
    · exact ⟨8, by decide, by decide, L2.atI_nat rfl⟩
  have l0 : cFrz (nLst (aCons (cD (.int 5)) (aCons (cD (.int 5)) (aCons (cD (.int 5)) (aCons (cD (.int 8)) aNil))))) (eL (scrD ns) (.int (k : Nat)) (bgS b0) v3 v4 v5 v6 v7 v8 v9) = some (.ok (.d (.list [.int 5, .int 5, .int 5, .int 8])) (eL (scrD ns) (.int (k : Nat)) (bgS b0) v3 v4 v5 v6 v7 v8 v9)) := rfl
  have t1' : cFrz (nCall [2] 2 fTake (aCons (cVar 2) (aCons (cD (.int 4)) aNil))) (eL (scrD ns) (.int (k : Nat)) (bgS b0) v3 v4 v5 v6 v7 v8 v9) = some (.ok (.d (.int (n : Nat))) (eL (scrD ns) (.int (k : Nat)) (bgS b1) v3 v4 v5 v6 v7 v8 v9)) := t1
  have s1 : sSet 3 (cBin subD (cFrz (nLst (aCons (cD (.int 5)) (aCons (cD (.int 5)) (aCons (cD (.int 5)) (aCons (cD (.int 8)) aNil)))))) (cFrz (nCall [2] 2 fTake (aCons (cVar 2) (aCons (cD (.int 4)) aNil))))) (eL (scrD ns) (.int (k : Nat)) (bgS b0) v3 v4 v5 v6 v7 v8 v9) = some (.nx (eL (scrD ns) (.int (k : Nat)) (bgS b1) (.val (.int most)) v4 v5 v6 v7 v8 v9)) := r_set (i := 3) (r_bin l0 t1' hm) h3
  obtain ⟨os, b2, go, lo, hb2, d2⟩ := drawn (scr := scrD ns) (kd := .int (k : Nat)) (w := 0) (o := 1) (v4 := v4) (v5 := v5) (v6 := v6) (v7 := v7) (v8 := v8) (v9 := v9) hb1 ⟨hm0, hm1⟩ (by decide)
  have s2 := r_set (i := 4) d2 h4
  obtain ⟨ts, b3, gt, lt, hb3, d3⟩ := drawn (scr := scrD ns) (kd := .int (k : Nat)) (w := 1) (o := 0) (v4 := .val (lsD os)) (v5 := v5) (v6 := v6) (v7 := v7) (v8 := v8) (v9 := v9) hb2 ⟨hm0, hm1⟩ (by decide)
  have s3 := r_set (i := 5) d3 h5
  have H : Cds os ts := ⟨fun x hx y hy => by
    have a := go x hx
    have c := gt y hy
    exact ⟨by rw [a.w, c.o], by rw [a.o, c.w], by rw [a.m, c.m]⟩, fun x hx => (go x hx).s, fun y hy => (gt y hy).s, lo, lt⟩
  have s4 : sSet 6 (cTup (aCons (cCall listD (aCons (cVar 4) aNil)) (aCons (cCall listD (aCons (cVar 5) aNil)) aNil))) (eL (scrD ns) (.int (k : Nat)) (bgS b3) (.val (.int most)) (.val (lsD os)) (.val (lsD ts)) v6 v7 v8 v9) = some (.nx (eL (scrD ns) (.int (k : Nat)) (bgS b3) (.val (.int most)) (.val (lsD os)) (.val (lsD ts)) (.val (.tuple [lsD os, lsD ts])) v7 v8 v9)) := by
    have q : cTup (aCons (cCall listD (aCons (cVar 4) aNil)) (aCons (cCall listD (aCons (cVar 5) aNil)) aNil)) (eL (scrD ns) (.int (k : Nat)) (bgS b3) (.val (.int most)) (.val (lsD os)) (.val (lsD ts)) v6 v7 v8 v9) = some (.ok (.d (.tuple [lsD os, lsD ts])) (eL (scrD ns) (.int (k : Nat)) (bgS b3) (.val (.int most)) (.val (lsD os)) (.val (lsD ts)) v6 v7 v8 v9)) := rfl
    exact r_set (i := 6) q h6
  obtain ⟨w7, w8, g7, g8, e5⟩ := turns_ok (scr := scrD ns) (kd := .int (k : Nat)) (v2 := bgS b3) (v3 := .val (.int most)) (v9 := v9) H (List.range 2) v7 v8 h7 h8
  have s5 := for_ok (g := gN 7) (b := b_law_0) (rng2 (f := aCons (cD (.int 2)) aNil) (n := 2) (ρ := eL (scrD ns) (.int (k : Nat)) (bgS b3) (.val (.int most)) (.val (lsD os)) (.val (lsD ts)) (.val (.tuple [lsD os, lsD ts])) v7 v8 v9) rfl (by decide)) e5
  obtain ⟨v, b4, hb4, s6⟩ := odd_run (scr := scrD ns) (kd := .int (k : Nat)) (v3 := .val (.int most)) (v4 := .val (lsD os)) (v5 := .val (lsD ts)) (v6 := .val (.tuple [lsD os, lsD ts])) (v7 := w7) (v8 := w8) (v9 := v9) hb3 h9
  have s7 := unlike_run (scr := scrD ns) (kd := .int (k : Nat)) (v2 := bgS b4) (v3 := .val (.int most)) (v6 := .val (.tuple [lsD os, lsD ts])) (v7 := w7) (v8 := w8) H go v
  refine ⟨bgS b4, .val (.int most), .val (lsD os), .val (lsD ts), .val (.tuple [lsD os, lsD ts]), w7, w8, .val (odds v).D, .cons rfl (.cons rfl (.cons rfl (.cons rfl (.cons rfl (.cons g7 (.cons g8 (.cons rfl .nil))))))), ?_⟩
  exact (seq_nx s0).trans ((seq_nx s1).trans ((seq_nx s2).trans ((seq_nx s3).trans ((seq_nx s4).trans ((seq_nx s5).trans ((seq_nx s6).trans s7))))))
end
theorem law_true : ∀ ns : List Int, ns.length ≤ 63 → ∃ outs, F_law [.val (scrD ns)] = some (.ret (.dat (.bool true)), outs) := by
  intro ns _
  refine law_cells (body := b_law_1) (c := 8) (n := 8) (by decide) ns fun k vs hk hl hv => ?_
  obtain ⟨v2, v3, v4, v5, v6, v7, v8, v9, rfl⟩ : ∃ a b c d e f g h, vs = [a, b, c, d, e, f, g, h] := by
    match vs, hl with
    | [a, b, c, d, e, f, g, h], _ => exact ⟨a, b, c, d, e, f, g, h, rfl⟩
  have fr : ∀ {v : Sl}, v ∈ [v2, v3, v4, v5, v6, v7, v8, v9] → frB (some v) = true := fun h => hv _ h
  obtain ⟨w2, w3, w4, w5, w6, w7, w8, w9, g, e⟩ := cell (ns := ns) (k := k) hk (fr (v := v2) (by simp)) (fr (v := v3) (by simp)) (fr (v := v4) (by simp)) (fr (v := v5) (by simp)) (fr (v := v6) (by simp)) (fr (v := v7) (by simp)) (fr (v := v8) (by simp)) (fr (v := v9) (by simp))
  exact ⟨[w2, w3, w4, w5, w6, w7, w8, w9], rfl, g, e⟩
end K09

end

section
set_option Elab.async false
set_option linter.all false
set_option maxRecDepth 100000
set_option maxHeartbeats 0
namespace K09
open PySem PySem.Spec PyProof.Rows L2 VL SM SN
theorem all_mk {l : PySem.W.OpenLaw} {w : World} {K : PySem.W.Frag} {h : Heap} {mg : Str → Option Value} {fa : Addr} (X : K.In h) (G : h.Ns mainGlobals mg) (hfa : mg "law" = some (.ref fa))
    {od1 an1 : Option Addr} {sl1 : Array (Option Value)} {f1 : Addr} {oc1 kV1 dc1 pm1 cd1 ct1 : Value} {od2 an2 : Option Addr} {sl2 : Array (Option Value)} {f2 : Addr} {oc2 kV2 dc2 pm2 cd2 ct2 : Value} {od3 an3 : Option Addr} {sl3 : Array (Option Value)} {f3 : Addr} {oc3 kV3 dc3 pm3 cd3 ct3 : Value} {od4 an4 : Option Addr} {sl4 : Array (Option Value)} {f4 : Addr} {oc4 kV4 dc4 pm4 cd4 ct4 : Value} {od5 an5 : Option Addr} {sl5 : Array (Option Value)} {f5 : Addr} {oc5 kV5 dc5 pm5 cd5 ct5 : Value} {od6 an6 : Option Addr} {sl6 : Array (Option Value)} {f6 : Addr} {oc6 kV6 dc6 pm6 cd6 ct6 : Value} {od7 an7 : Option Addr} {sl7 : Array (Option Value)} {f7 : Addr} {oc7 kV7 dc7 pm7 cd7 ct7 : Value} {od8 an8 : Option Addr} {sl8 : Array (Option Value)} {f8 : Addr} {oc8 kV8 dc8 pm8 cd8 ct8 : Value} {od9 an9 : Option Addr} {sl9 : Array (Option Value)} {f9 : Addr} {oc9 kV9 dc9 pm9 cd9 ct9 : Value} {od10 an10 : Option Addr} {sl10 : Array (Option Value)} {f10 : Addr} {oc10 kV10 dc10 pm10 cd10 ct10 : Value} {od11 an11 : Option Addr} {sl11 : Array (Option Value)} {f11 : Addr} {oc11 kV11 dc11 pm11 cd11 ct11 : Value} {od12 an12 : Option Addr} {sl12 : Array (Option Value)} {f12 : Addr} {oc12 kV12 dc12 pm12 cd12 ct12 : Value} {i1 : Tok} {xc1 : Addr} {xc2 : Addr} {xc3 : Addr} {xc4 : Addr} {xc5 : Addr} {xc6 : Addr} {xc7 : Addr} {xc8 : Addr} {xc9 : Addr} {xc10 : Addr} {xc11 : Addr} {xc12 : Addr} {xc13 : Addr} {xc14 : Addr} {xc15 : Addr} {xc16 : Addr} {xc17 : Addr} {xc18 : Addr}
    (a1 : PySem.W.nsIn K mainGlobals "belong" = some (some (.ref f1))) (l1 : K.lookup f1 = some ⟨oc1, od1, .func (PySem.W.fnOf "belong" "belong" (defArgs st_belong) (defBody st_belong) (defScope st_belong) .none kV1 dc1 pm1 an1 cd1 ct1), sl1⟩) (c1 : PySem.W.codeIn K cd1 "belong" = true) (k1 : PySem.W.keepIn K (.ref f1) = true)
    (a2 : PySem.W.nsIn K mainGlobals "_law_bag" = some (some (.ref f2))) (l2 : K.lookup f2 = some ⟨oc2, od2, .func (PySem.W.fnOf "_law_bag" "_law_bag" (defArgs st__law_bag) (defBody st__law_bag) (defScope st__law_bag) .none kV2 dc2 pm2 an2 cd2 ct2), sl2⟩) (c2 : PySem.W.codeIn K cd2 "_law_bag" = true) (k2 : PySem.W.keepIn K (.ref f2) = true)
    (a3 : PySem.W.nsIn K mainGlobals "_law_take" = some (some (.ref f3))) (l3 : K.lookup f3 = some ⟨oc3, od3, .func (PySem.W.fnOf "_law_take" "_law_take" (defArgs st__law_take) (defBody st__law_take) (defScope st__law_take) .none kV3 dc3 pm3 an3 cd3 ct3), sl3⟩) (c3 : PySem.W.codeIn K cd3 "_law_take" = true) (k3 : PySem.W.keepIn K (.ref f3) = true)
    (a4 : PySem.W.nsIn K mainGlobals "_law_kinds" = some (some (.ref f4))) (l4 : K.lookup f4 = some ⟨oc4, od4, .func (PySem.W.fnOf "_law_kinds" "_law_kinds" (defArgs st__law_kinds) (defBody st__law_kinds) (defScope st__law_kinds) .none kV4 dc4 pm4 an4 cd4 ct4), sl4⟩) (c4 : PySem.W.codeIn K cd4 "_law_kinds" = true) (k4 : PySem.W.keepIn K (.ref f4) = true)
    (a5 : PySem.W.nsIn K mainGlobals "_law_quarrel" = some (some (.ref f5))) (l5 : K.lookup f5 = some ⟨oc5, od5, .func (PySem.W.fnOf "_law_quarrel" "_law_quarrel" (defArgs st__law_quarrel) (defBody st__law_quarrel) (defScope st__law_quarrel) .none kV5 dc5 pm5 an5 cd5 ct5), sl5⟩) (c5 : PySem.W.codeIn K cd5 "_law_quarrel" = true) (k5 : PySem.W.keepIn K (.ref f5) = true)
    (a6 : PySem.W.nsIn K mainGlobals "quarrel_of" = some (some (.ref f6))) (l6 : K.lookup f6 = some ⟨oc6, od6, .func (PySem.W.fnOf "quarrel_of" "quarrel_of" (defArgs st_quarrel_of) (defBody st_quarrel_of) (defScope st_quarrel_of) .none kV6 dc6 pm6 an6 cd6 ct6), sl6⟩) (c6 : PySem.W.codeIn K cd6 "quarrel_of" = true) (k6 : PySem.W.keepIn K (.ref f6) = true)
    (a7 : PySem.W.nsIn K mainGlobals "_law_some" = some (some (.ref f7))) (l7 : K.lookup f7 = some ⟨oc7, od7, .func (PySem.W.fnOf "_law_some" "_law_some" (defArgs st__law_some) (defBody st__law_some) (defScope st__law_some) .none kV7 dc7 pm7 an7 cd7 ct7), sl7⟩) (c7 : PySem.W.codeIn K cd7 "_law_some" = true) (k7 : PySem.W.keepIn K (.ref f7) = true)
    (a8 : PySem.W.nsIn K mainGlobals "_law_least" = some (some (.ref f8))) (l8 : K.lookup f8 = some ⟨oc8, od8, .func (PySem.W.fnOf "_law_least" "_law_least" (defArgs st__law_least) (defBody st__law_least) (defScope st__law_least) .none kV8 dc8 pm8 an8 cd8 ct8), sl8⟩) (c8 : PySem.W.codeIn K cd8 "_law_least" = true) (k8 : PySem.W.keepIn K (.ref f8) = true)
    (a9 : PySem.W.nsIn K mainGlobals "fit_from" = some (some (.ref f9))) (l9 : K.lookup f9 = some ⟨oc9, od9, .func (PySem.W.fnOf "fit_from" "fit_from" (defArgs st_fit_from) (defBody st_fit_from) (defScope st_fit_from) .none kV9 dc9 pm9 an9 cd9 ct9), sl9⟩) (c9 : PySem.W.codeIn K cd9 "fit_from" = true) (k9 : PySem.W.keepIn K (.ref f9) = true)
    (a10 : PySem.W.nsIn K mainGlobals "best_fit" = some (some (.ref f10))) (l10 : K.lookup f10 = some ⟨oc10, od10, .func (PySem.W.fnOf "best_fit" "best_fit" (defArgs st_best_fit) (defBody st_best_fit) (defScope st_best_fit) .none kV10 dc10 pm10 an10 cd10 ct10), sl10⟩) (c10 : PySem.W.codeIn K cd10 "best_fit" = true) (k10 : PySem.W.keepIn K (.ref f10) = true)
    (a11 : PySem.W.nsIn K mainGlobals "_law_asked" = some (some (.ref f11))) (l11 : K.lookup f11 = some ⟨oc11, od11, .func (PySem.W.fnOf "_law_asked" "_law_asked" (defArgs st__law_asked) (defBody st__law_asked) (defScope st__law_asked) .none kV11 dc11 pm11 an11 cd11 ct11), sl11⟩) (c11 : PySem.W.codeIn K cd11 "_law_asked" = true) (k11 : PySem.W.keepIn K (.ref f11) = true)
    (a12 : PySem.W.nsIn K mainGlobals "law" = some (some (.ref f12))) (l12 : K.lookup f12 = some ⟨oc12, od12, .func (PySem.W.fnOf "law" "law" (defArgs st_law) (defBody st_law) (defScope st_law) .none kV12 dc12 pm12 an12 cd12 ct12), sl12⟩) (c12 : PySem.W.codeIn K cd12 "law" = true) (k12 : PySem.W.keepIn K (.ref f12) = true)
    (z1 : PySem.W.nsIn K mainGlobals "ValueError" = some none)
    (z2 : PySem.W.nsIn K mainGlobals "all" = some none)
    (z3 : PySem.W.nsIn K mainGlobals "int" = some none)
    (z4 : PySem.W.nsIn K mainGlobals "isinstance" = some none)
    (z5 : PySem.W.nsIn K mainGlobals "len" = some none)
    (z6 : PySem.W.nsIn K mainGlobals "list" = some none)
    (z7 : PySem.W.nsIn K mainGlobals "min" = some none)
    (z8 : PySem.W.nsIn K mainGlobals "range" = some none)
    (z9 : PySem.W.nsIn K mainGlobals "sorted" = some none)
    (z10 : PySem.W.nsIn K mainGlobals "tuple" = some none)
    (j1 : PySem.W.nsIn K mainGlobals "ALONE" = some (some (.int 2 i1)))
    (xg1 : PySem.W.nsIn K mainGlobals "BadNumber" = some (some (.ref xc1)))
    (xg2 : PySem.W.nsIn K mainGlobals "Closed" = some (some (.ref xc2)))
    (xg3 : PySem.W.nsIn K mainGlobals "NoBargain" = some (some (.ref xc3)))
    (xg4 : PySem.W.nsIn K mainGlobals "NoMember" = some (some (.ref xc4)))
    (xg5 : PySem.W.nsIn K mainGlobals "NoOffer" = some (some (.ref xc5)))
    (xg6 : PySem.W.nsIn K mainGlobals "NoQuarrel" = some (some (.ref xc6)))
    (xg7 : PySem.W.nsIn K mainGlobals "NoRow" = some (some (.ref xc7)))
    (xg8 : PySem.W.nsIn K mainGlobals "NoSign" = some (some (.ref xc8)))
    (xg9 : PySem.W.nsIn K mainGlobals "NoText" = some (some (.ref xc9)))
    (xg10 : PySem.W.nsIn K mainGlobals "NoWay" = some (some (.ref xc10)))
    (xg11 : PySem.W.nsIn K mainGlobals "NotSeen" = some (some (.ref xc11)))
    (xg12 : PySem.W.nsIn K mainGlobals "NotTheirs" = some (some (.ref xc12)))
    (xg13 : PySem.W.nsIn K mainGlobals "NothingLeft" = some (some (.ref xc13)))
    (xg14 : PySem.W.nsIn K mainGlobals "Own" = some (some (.ref xc14)))
    (xg15 : PySem.W.nsIn K mainGlobals "TooMany" = some (some (.ref xc15)))
    (xg16 : PySem.W.nsIn K mainGlobals "Twice" = some (some (.ref xc16)))
    (xg17 : PySem.W.nsIn K mainGlobals "Unlike" = some (some (.ref xc17)))
    (xg18 : PySem.W.nsIn K mainGlobals "HallError" = some (some (.ref xc18)))
    (xt : tabB K [xc1, xc2, xc3, xc4, xc5, xc6, xc7, xc8, xc9, xc10, xc11, xc12, xc13, xc14, xc15, xc16, xc17] xc18 = true)
    : ∃ fd : FuncData, (∀ (s : Shared) (v : Value), BindsTo s fd ⟨[v], []⟩ [("script", v)]) ∧ ∀ base : Heap, K.In base → base.Ns mainGlobals mg → TbB K base mg → FnOk l.prog w K mg base CX0 16 fa fd ["script"] (spLaw K) := by
  have e := hfa.symm.trans (PySem.W.mg_of X G a12)
  cases e
  have F1 := fun_mk (st := st_belong) l1 c1 k1
  have b1 := F1.binds (ps := ["one", "other"]) fun _ _ _ _ _ _ us hl => match us, hl with | [_, _], _ => rfl
  have F2 := fun_mk (st := st__law_bag) l2 c2 k2
  have b2 := F2.binds (ps := ["script", "k"]) fun _ _ _ _ _ _ us hl => match us, hl with | [_, _], _ => rfl
  have F3 := fun_mk (st := st__law_take) l3 c3 k3
  have b3 := F3.binds (ps := ["bag", "many"]) fun _ _ _ _ _ _ us hl => match us, hl with | [_, _], _ => rfl
  have F4 := fun_mk (st := st__law_kinds) l4 c4 k4
  have b4 := F4.binds (ps := ["e"]) fun _ _ _ _ _ _ us hl => match us, hl with | [_], _ => rfl
  have F5 := fun_mk (st := st__law_quarrel) l5 c5 k5
  have b5 := F5.binds (ps := ["one", "other"]) fun _ _ _ _ _ _ us hl => match us, hl with | [_, _], _ => rfl
  have F6 := fun_mk (st := st_quarrel_of) l6 c6 k6
  have b6 := F6.binds (ps := ["one", "other"]) fun _ _ _ _ _ _ us hl => match us, hl with | [_, _], _ => rfl
  have F7 := fun_mk (st := st__law_some) l7 c7 k7
  have b7 := F7.binds (ps := ["bag", "writer", "other", "many", "moment"]) fun _ _ _ _ _ _ us hl => match us, hl with | [_, _, _, _, _], _ => rfl
  have F8 := fun_mk (st := st__law_least) l8 c8 k8
  have b8 := F8.binds (ps := ["ones", "others"]) fun _ _ _ _ _ _ us hl => match us, hl with | [_, _], _ => rfl
  have F9 := fun_mk (st := st_fit_from) l9 c9 k9
  have b9 := F9.binds (ps := ["costs", "at", "left", "known"]) fun _ _ _ _ _ _ us hl => match us, hl with | [_, _, _, _], _ => rfl
  have F10 := fun_mk (st := st_best_fit) l10 c10 k10
  have b10 := F10.binds (ps := ["ones", "others"]) fun _ _ _ _ _ _ us hl => match us, hl with | [_, _], _ => rfl
  have F11 := fun_mk (st := st__law_asked) l11 c11 k11
  have b11 := F11.binds (ps := ["ones", "others"]) fun _ _ _ _ _ _ us hl => match us, hl with | [_, _], _ => rfl
  have F12 := fun_mk (st := st_law) l12 c12 k12
  have b12 := F12.binds (ps := ["script"]) fun _ _ _ _ _ _ us hl => match us, hl with | [_], _ => rfl
  have xm1 := PySem.W.mg_of X G xg1
  have xm2 := PySem.W.mg_of X G xg2
  have xm3 := PySem.W.mg_of X G xg3
  have xm4 := PySem.W.mg_of X G xg4
  have xm5 := PySem.W.mg_of X G xg5
  have xm6 := PySem.W.mg_of X G xg6
  have xm7 := PySem.W.mg_of X G xg7
  have xm8 := PySem.W.mg_of X G xg8
  have xm9 := PySem.W.mg_of X G xg9
  have xm10 := PySem.W.mg_of X G xg10
  have xm11 := PySem.W.mg_of X G xg11
  have xm12 := PySem.W.mg_of X G xg12
  have xm13 := PySem.W.mg_of X G xg13
  have xm14 := PySem.W.mg_of X G xg14
  have xm15 := PySem.W.mg_of X G xg15
  have xm16 := PySem.W.mg_of X G xg16
  have xm17 := PySem.W.mg_of X G xg17
  have xm18 := PySem.W.mg_of X G xg18
  have tbk : TabOk K mg [(SM.s_BadNumber, xc1), (SM.s_Closed, xc2), (SM.s_NoBargain, xc3), (SM.s_NoMember, xc4), (SM.s_NoOffer, xc5), (SM.s_NoQuarrel, xc6), (SM.s_NoRow, xc7), (SM.s_NoSign, xc8), (SM.s_NoText, xc9), (SM.s_NoWay, xc10), (SM.s_NotSeen, xc11), (SM.s_NotTheirs, xc12), (SM.s_NothingLeft, xc13), (SM.s_Own, xc14), (SM.s_TooMany, xc15), (SM.s_Twice, xc16), (SM.s_Unlike, xc17)] xc18 := tab_of (fun y ay h => by
    simp only [List.mem_cons, List.not_mem_nil, or_false, Prod.mk.injEq] at h
    rcases h with ⟨rfl, rfl⟩ | ⟨rfl, rfl⟩ | ⟨rfl, rfl⟩ | ⟨rfl, rfl⟩ | ⟨rfl, rfl⟩ | ⟨rfl, rfl⟩ | ⟨rfl, rfl⟩ | ⟨rfl, rfl⟩ | ⟨rfl, rfl⟩ | ⟨rfl, rfl⟩ | ⟨rfl, rfl⟩ | ⟨rfl, rfl⟩ | ⟨rfl, rfl⟩ | ⟨rfl, rfl⟩ | ⟨rfl, rfl⟩ | ⟨rfl, rfl⟩ | ⟨rfl, rfl⟩
    · exact SM.e_BadNumber ▸ xm1
    · exact SM.e_Closed ▸ xm2
    · exact SM.e_NoBargain ▸ xm3
    · exact SM.e_NoMember ▸ xm4
    · exact SM.e_NoOffer ▸ xm5
    · exact SM.e_NoQuarrel ▸ xm6
    · exact SM.e_NoRow ▸ xm7
    · exact SM.e_NoSign ▸ xm8
    · exact SM.e_NoText ▸ xm9
    · exact SM.e_NoWay ▸ xm10
    · exact SM.e_NotSeen ▸ xm11
    · exact SM.e_NotTheirs ▸ xm12
    · exact SM.e_NothingLeft ▸ xm13
    · exact SM.e_Own ▸ xm14
    · exact SM.e_TooMany ▸ xm15
    · exact SM.e_Twice ▸ xm16
    · exact SM.e_Unlike ▸ xm17) xt
  have A : All K w mg ⟨f1, PySem.W.fnOf "belong" "belong" (defArgs st_belong) (defBody st_belong) (defScope st_belong) .none kV1 dc1 pm1 an1 cd1 ct1, f2, PySem.W.fnOf "_law_bag" "_law_bag" (defArgs st__law_bag) (defBody st__law_bag) (defScope st__law_bag) .none kV2 dc2 pm2 an2 cd2 ct2, f3, PySem.W.fnOf "_law_take" "_law_take" (defArgs st__law_take) (defBody st__law_take) (defScope st__law_take) .none kV3 dc3 pm3 an3 cd3 ct3, f4, PySem.W.fnOf "_law_kinds" "_law_kinds" (defArgs st__law_kinds) (defBody st__law_kinds) (defScope st__law_kinds) .none kV4 dc4 pm4 an4 cd4 ct4, f5, PySem.W.fnOf "_law_quarrel" "_law_quarrel" (defArgs st__law_quarrel) (defBody st__law_quarrel) (defScope st__law_quarrel) .none kV5 dc5 pm5 an5 cd5 ct5, f6, PySem.W.fnOf "quarrel_of" "quarrel_of" (defArgs st_quarrel_of) (defBody st_quarrel_of) (defScope st_quarrel_of) .none kV6 dc6 pm6 an6 cd6 ct6, f7, PySem.W.fnOf "_law_some" "_law_some" (defArgs st__law_some) (defBody st__law_some) (defScope st__law_some) .none kV7 dc7 pm7 an7 cd7 ct7, f8, PySem.W.fnOf "_law_least" "_law_least" (defArgs st__law_least) (defBody st__law_least) (defScope st__law_least) .none kV8 dc8 pm8 an8 cd8 ct8, f9, PySem.W.fnOf "fit_from" "fit_from" (defArgs st_fit_from) (defBody st_fit_from) (defScope st_fit_from) .none kV9 dc9 pm9 an9 cd9 ct9, f10, PySem.W.fnOf "best_fit" "best_fit" (defArgs st_best_fit) (defBody st_best_fit) (defScope st_best_fit) .none kV10 dc10 pm10 an10 cd10 ct10, f11, PySem.W.fnOf "_law_asked" "_law_asked" (defArgs st__law_asked) (defBody st__law_asked) (defScope st__law_asked) .none kV11 dc11 pm11 an11 cd11 ct11, fa, PySem.W.fnOf "law" "law" (defArgs st_law) (defBody st_law) (defScope st_law) .none kV12 dc12 pm12 an12 cd12 ct12, xc1, xc2, xc3, xc4, xc5, xc6, xc7, xc8, xc9, xc10, xc11, xc12, xc13, xc14, xc15, xc16, xc17, xc18⟩ := ⟨F1, PySem.W.mg_of X G a1, b1, F2, PySem.W.mg_of X G a2, b2, F3, PySem.W.mg_of X G a3, b3, F4, PySem.W.mg_of X G a4, b4, F5, PySem.W.mg_of X G a5, b5, F6, PySem.W.mg_of X G a6, b6, F7, PySem.W.mg_of X G a7, b7, F8, PySem.W.mg_of X G a8, b8, F9, PySem.W.mg_of X G a9, b9, F10, PySem.W.mg_of X G a10, b10, F11, PySem.W.mg_of X G a11, b11, F12, PySem.W.mg_of X G a12, b12, PySem.W.mg_none_of X G z1, PySem.W.mg_none_of X G z2, PySem.W.mg_none_of X G z3, PySem.W.mg_none_of X G z4, PySem.W.mg_none_of X G z5, PySem.W.mg_none_of X G z6, PySem.W.mg_none_of X G z7, PySem.W.mg_none_of X G z8, PySem.W.mg_none_of X G z9, PySem.W.mg_none_of X G z10, ⟨_, PySem.W.mg_of X G j1⟩, xm1, xm2, xm3, xm4, xm5, xm6, xm7, xm8, xm9, xm10, xm11, xm12, xm13, xm14, xm15, xm16, xm17, xm18, tbk⟩
  exact ⟨_, fun s v => .of_eq rfl, fun base _ _ hB => (ok_law A).imp fun vs H Q E h => law_imp law_true h⟩
end K09
theorem PySem.W.Fast.te14050938623468831398 : True := trivial
open PySem PySem.W PyProof.Rows
set_option maxRecDepth 100000 in
set_option maxHeartbeats 0 in
theorem PySem.Challenge.cw_palmhall_k09_best_fits_holds : PySem.Challenge.rw_palmhall_k09_best_fits.Holds := by
  w_on; o_law; k_head; (case hw => w_witness2)
  k_fill
  refine VL.walk (l := PySem.Challenge.rw_palmhall_k09_best_fits) (k := 16) rfl rfl ⟨rfl, by decide, by decide⟩ (fun w h Y => PySem.W.kIn_of Y) ?T ?F
  case T => intro w; kernel_rfl
  case F =>
    intro w mg fa h KX G hmg
    refine' K09.all_mk KX G hmg ?a1 ?l1 ?c1 ?k1 ?a2 ?l2 ?c2 ?k2 ?a3 ?l3 ?c3 ?k3 ?a4 ?l4 ?c4 ?k4 ?a5 ?l5 ?c5 ?k5 ?a6 ?l6 ?c6 ?k6 ?a7 ?l7 ?c7 ?k7 ?a8 ?l8 ?c8 ?k8 ?a9 ?l9 ?c9 ?k9 ?a10 ?l10 ?c10 ?k10 ?a11 ?l11 ?c11 ?k11 ?a12 ?l12 ?c12 ?k12 ?z1 ?z2 ?z3 ?z4 ?z5 ?z6 ?z7 ?z8 ?z9 ?z10 ?j1 ?xg1 ?xg2 ?xg3 ?xg4 ?xg5 ?xg6 ?xg7 ?xg8 ?xg9 ?xg10 ?xg11 ?xg12 ?xg13 ?xg14 ?xg15 ?xg16 ?xg17 ?xg18 ?xt
    (case a1 => k_is)
    (case l1 => k_is)
    (case c1 => k_is)
    (case k1 => k_is)
    (case a2 => k_is)
    (case l2 => k_is)
    (case c2 => k_is)
    (case k2 => k_is)
    (case a3 => k_is)
    (case l3 => k_is)
    (case c3 => k_is)
    (case k3 => k_is)
    (case a4 => k_is)
    (case l4 => k_is)
    (case c4 => k_is)
    (case k4 => k_is)
    (case a5 => k_is)
    (case l5 => k_is)
    (case c5 => k_is)
    (case k5 => k_is)
    (case a6 => k_is)
    (case l6 => k_is)
    (case c6 => k_is)
    (case k6 => k_is)
    (case a7 => k_is)
    (case l7 => k_is)
    (case c7 => k_is)
    (case k7 => k_is)
    (case a8 => k_is)
    (case l8 => k_is)
    (case c8 => k_is)
    (case k8 => k_is)
    (case a9 => k_is)
    (case l9 => k_is)
    (case c9 => k_is)
    (case k9 => k_is)
    (case a10 => k_is)
    (case l10 => k_is)
    (case c10 => k_is)
    (case k10 => k_is)
    (case a11 => k_is)
    (case l11 => k_is)
    (case c11 => k_is)
    (case k11 => k_is)
    (case a12 => k_is)
    (case l12 => k_is)
    (case c12 => k_is)
    (case k12 => k_is)
    (case z1 => k_is)
    (case z2 => k_is)
    (case z3 => k_is)
    (case z4 => k_is)
    (case z5 => k_is)
    (case z6 => k_is)
    (case z7 => k_is)
    (case z8 => k_is)
    (case z9 => k_is)
    (case z10 => k_is)
    (case j1 => k_is)
    (case xg1 => k_is)
    (case xg2 => k_is)
    (case xg3 => k_is)
    (case xg4 => k_is)
    (case xg5 => k_is)
    (case xg6 => k_is)
    (case xg7 => k_is)
    (case xg8 => k_is)
    (case xg9 => k_is)
    (case xg10 => k_is)
    (case xg11 => k_is)
    (case xg12 => k_is)
    (case xg13 => k_is)
    (case xg14 => k_is)
    (case xg15 => k_is)
    (case xg16 => k_is)
    (case xg17 => k_is)
    (case xg18 => k_is)
    (case xt => kernel_rfl)

end
